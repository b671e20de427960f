import JvmDerived
import JvmDerived.Pilot.@@N@@Statement
import JvmDerived.Pilot.@@N@@Code
set_option linter.unusedVariables false
set_option linter.unusedSimpArgs false
namespace Jvm.RoadKit
open Sem ClassFile Op Lib Jvm.Stand Jvm.Free Jvm.LawKit
section New
variable {p : Program} {l : Launch} {e : Env} {R : Room} {s : State} {m : MethodId} {args : Array Value} {below : List Frame} {meth : Method} {c : Code} {T : State} {locs : List Loc} {cells slots : Nat}
theorem retI (X : Stand p l e R s m args below meth c T locs cells slots) (hx : p.tables.exec = Jvm.exec) {pc : Nat} {Ls : Array Slot} {z : Int32} {rest : List Value} (hret : meth.sig.returnType = some .int) (hd : decode c.code pc = .ok (.ireturn, 1)) {fs : List Frame}
    (hl : ∀ (f : JFrame) (acts : List Action), f.method = m → f.locked = none → f.entered = [] → (doReturn e (T.setTop f) acts (some (.int z))).1 = T.setFrames fs) : Steps p.tables e below (T.setTop (mkF m pc Ls (.int z :: rest))) (T.setFrames fs) := by
  have hm' : T.vm.method? m = some meth := X.method'
  have hn : narrow .int (.int z) = .int z := rfl
  show Steps p.tables e below (T.setTop { method := m, pc := pc, locals := Ls, stack := _ :: rest, locked := none }) _
  jvm_step X.here [X.here.top, hx, hd, hm', hret, hn]
  first | (intro acts; rw [hl _ acts rfl rfl rfl]) | rw [hl _ _ rfl rfl rfl]
  exact Steps.refl _
end New
end Jvm.RoadKit
namespace Jvm.Own
open Jvm Jvm.ClassFile Sem Op Lib Jvm.Free Jvm.Stand Jvm.LawKit Jvm.RoadKit
/-! ## 1. Local variables: what the walk knows of them (L) and what they are (r) -/
def rv (ρ : Nat → Addr) : Value → Value
  | .ref k => .ref (ρ k)
  | .int x => .int x
  | .long x => .long x
  | .float x => .float x
  | .double x => .double x
  | .null => .null
  | .retAddr x => .retAddr x
def rs (ρ : Nat → Addr) : Slot → Slot
  | .val v => .val (rv ρ v)
  | .unset => .unset
  | .second => .second
theorem rv_cat (ρ : Nat → Addr) (v : Value) : (rv ρ v).category = v.category := by cases v <;> rfl
def WR (f : Nat → Option Slot) : Prop := (∀ i v, f i = some (.val v) → v.category = 2 → f (i + 1) = some .second) ∧ (∀ i, f i = some .second → ∃ j v, i = j + 1 ∧ f j = some (.val v) ∧ v.category = 2)
def up (f : Nat → Option Slot) (i : Nat) (x : Slot) : Nat → Option Slot := fun k => if k = i then some x else f k
def C1 (s : Option Slot) : Prop := s = some .unset ∨ ∃ w, s = some (.val w) ∧ w.category = 1
theorem C1.not2 {s : Option Slot} (h : C1 s) : s ≠ some .second ∧ ∀ v, s = some (.val v) → v.category ≠ 2 := by
  rcases h with rfl | ⟨w, rfl, h⟩
  · exact ⟨nofun, nofun⟩
  · exact ⟨nofun, fun v e q => by cases e; omega⟩
theorem up_at (f : Nat → Option Slot) (i : Nat) (x : Slot) : up f i x i = some x := by simp [up]
theorem up_ne (f : Nat → Option Slot) {i k : Nat} (x : Slot) (h : k ≠ i) : up f i x k = f k := by simp [up, h]
theorem WR.one {f : Nat → Option Slot} {i : Nat} {x : Slot} (h : WR f) (hi : C1 (f i)) (hx : C1 (some x)) : WR (up f i x) := by
  obtain ⟨n1, n2⟩ := hi.not2
  obtain ⟨m1, m2⟩ := hx.not2
  constructor
  · intro k v hk hv
    by_cases e : k = i
    · subst e; rw [up_at] at hk; exact absurd hv (m2 v hk)
    · rw [up_ne _ _ e] at hk
      have q := h.1 k v hk hv
      by_cases e2 : k + 1 = i
      · rw [e2] at q; exact absurd q n1
      · rw [up_ne _ _ e2]; exact q
  · intro k hk
    by_cases e : k = i
    · subst e; rw [up_at] at hk; exact absurd hk m1
    · rw [up_ne _ _ e] at hk
      obtain ⟨j, v, e1, e2, e3⟩ := h.2 k hk
      refine ⟨j, v, e1, ?_, e3⟩
      by_cases e4 : j = i
      · rw [e4] at e2; exact absurd e3 (n2 v e2)
      · rw [up_ne _ _ e4]; exact e2
theorem WR.clr {f : Nat → Option Slot} {j : Nat} {v : Value} (h : WR f) (hj : f j = some (.val v)) (hv : v.category = 2) : WR (up (up f j .unset) (j + 1) .unset) := by
  have q := h.1 j v hj hv
  constructor
  · intro k w hk hw
    by_cases e : k = j + 1
    · subst e; rw [up_at] at hk; cases hk
    · rw [up_ne _ _ e] at hk
      by_cases e2 : k = j
      · subst e2; rw [up_at] at hk; cases hk
      · rw [up_ne _ _ e2] at hk
        have q2 := h.1 k w hk hw
        by_cases e3 : k + 1 = j
        · rw [e3] at q2; rw [hj] at q2; cases q2
        · rw [up_ne _ _ (show k + 1 ≠ j + 1 by omega), up_ne _ _ e3]; exact q2
  · intro k hk
    by_cases e : k = j + 1
    · subst e; rw [up_at] at hk; cases hk
    · rw [up_ne _ _ e] at hk
      by_cases e2 : k = j
      · subst e2; rw [up_at] at hk; cases hk
      · rw [up_ne _ _ e2] at hk
        obtain ⟨i, w, e3, e4, e5⟩ := h.2 k hk
        refine ⟨i, w, e3, ?_, e5⟩
        by_cases e6 : i = j + 1
        · rw [e6, q] at e4; cases e4
        · rw [up_ne _ _ e6, up_ne _ _ (show i ≠ j by omega)]; exact e4
theorem WR.two {f : Nat → Option Slot} {i : Nat} {v : Value} (h : WR f) (h1 : C1 (f i)) (h2 : C1 (f (i + 1))) (hv : v.category = 2) : WR (up (up f i (.val v)) (i + 1) .second) := by
  obtain ⟨n1, n2⟩ := h1.not2
  obtain ⟨m1, m2⟩ := h2.not2
  constructor
  · intro k w hk hw
    by_cases e : k = i + 1
    · subst e; rw [up_at] at hk; cases hk
    · rw [up_ne _ _ e] at hk
      by_cases e2 : k = i
      · subst e2; exact up_at _ _ _
      · rw [up_ne _ _ e2] at hk
        have q := h.1 k w hk hw
        by_cases e3 : k + 1 = i
        · rw [e3] at q; exact absurd q n1
        · rw [up_ne _ _ (show k + 1 ≠ i + 1 by omega), up_ne _ _ e3]; exact q
  · intro k hk
    by_cases e : k = i + 1
    · exact ⟨i, v, e, by rw [up_ne _ _ (show i ≠ i + 1 by omega), up_at], hv⟩
    · rw [up_ne _ _ e] at hk
      by_cases e2 : k = i
      · subst e2; rw [up_at] at hk; cases hk
      · rw [up_ne _ _ e2] at hk
        obtain ⟨j, w, e3, e4, e5⟩ := h.2 k hk
        refine ⟨j, w, e3, ?_, e5⟩
        by_cases e6 : j = i + 1
        · rw [e6] at e4; exact absurd e5 (m2 w e4)
        · by_cases e7 : j = i
          · omega
          · rw [up_ne _ _ e6, up_ne _ _ e7]; exact e4
theorem up_arr {r : Array Slot} {i : Nat} (hi : i < r.size) (x : Slot) : (fun k => (r.setIfInBounds i x)[k]?) = up (fun k => r[k]?) i x := by
  funext k
  show (r.setIfInBounds i x)[k]? = _
  rw [Array.getElem?_setIfInBounds]
  by_cases e : i = k
  · subst e; simp [up, hi]
  · rw [if_neg e, up_ne _ _ (Ne.symm e)]
theorem up_lst {L : List Slot} {i : Nat} (hi : i < L.length) (x : Slot) : (fun k => (L.set i x)[k]?) = up (fun k => L[k]?) i x := by
  funext k
  show (L.set i x)[k]? = _
  rw [List.getElem?_set]
  by_cases e : i = k
  · subst e; simp [up, hi]
  · rw [if_neg e, up_ne _ _ (Ne.symm e)]
def SR (ρ : Nat → Addr) (L : List Slot) (r : Array Slot) : Prop :=
  r.size = L.length ∧ (∀ (i : Nat) (v : Value), L[i]? = some (.val v) → r[i]? = some (.val (rv ρ v))) ∧ (∀ (i : Nat), L[i]? = some .second → r[i]? = some .second) ∧ WR (fun k => L[k]?) ∧ WR (fun k => r[k]?)
theorem SR.get {ρ : Nat → Addr} {L : List Slot} {r : Array Slot} (h : SR ρ L r) {i : Nat} {v : Value} (e : L[i]? = some (.val v)) : r[i]? = some (.val (rv ρ v)) := h.2.1 i v e
/-- a store of one word over nothing or one word -/
theorem SR.st1 {ρ : Nat → Addr} {L : List Slot} {r : Array Slot} {i : Nat} {v : Value} (h : SR ρ L r) (ho : C1 L[i]?) (hv : v.category = 1) :
    ∃ r', storeLocals r i (rv ρ v) = some r' ∧ SR ρ (L.set i (.val v)) r' := by
  obtain ⟨h1, h2, h3, h4, h5⟩ := h
  have hi : i < L.length := by
    rcases ho with h | ⟨w, h, -⟩ <;> exact (List.getElem?_eq_some_iff.mp h).1
  have hir : i < r.size := by omega
  have hcv : (rv ρ v).category = 1 := by rw [rv_cat]; exact hv
  have hcx : C1 (some (Slot.val (rv ρ v))) := Or.inr ⟨_, rfl, hcv⟩
  obtain ⟨n1, n2⟩ := ho.not2
  have fin : ∀ r' : Array Slot, r'.size = r.size → WR (fun k => r'[k]?) → r'[i]? = some (.val (rv ρ v)) → (∀ k, k ≠ i → r'[k]? = r[k]? ∨ ∀ s, L[k]? = some s → s = .unset) → SR ρ (L.set i (.val v)) r' := by
    intro r' a1 a2 a3 a4
    refine ⟨by rw [a1, h1, List.length_set], ?_, ?_, by rw [up_lst hi]; exact h4.one ho (Or.inr ⟨v, rfl, hv⟩), a2⟩
    · intro k w hk
      rw [List.getElem?_set] at hk
      by_cases e : i = k
      · subst e; simp [hi] at hk; subst hk; exact a3
      · rw [if_neg e] at hk
        rcases a4 k (Ne.symm e) with q | q
        · rw [q]; exact h2 k w hk
        · cases q _ hk
    · intro k hk
      rw [List.getElem?_set] at hk
      by_cases e : i = k
      · subst e; simp [hi] at hk
      · rw [if_neg e] at hk
        rcases a4 k (Ne.symm e) with q | q
        · rw [q]; exact h3 k hk
        · cases q _ hk
  obtain ⟨q, hq⟩ : ∃ q, r[i]? = some q := ⟨_, Array.getElem?_eq_getElem hir⟩
  have plain : C1 (r[i]?) → ∃ r', storeLocals r i (rv ρ v) = some r' ∧ SR ρ (L.set i (.val v)) r' := by
    intro hC
    have hs : storeLocals r i (rv ρ v) = some (r.setIfInBounds i (.val (rv ρ v))) := by
      rcases hC with e | ⟨w, e, hw⟩
      · exact XS.store1 e (Or.inl rfl) hcv
      · exact XS.store1 e (Or.inr ⟨w, rfl, hw⟩) hcv
    refine ⟨_, hs, fin _ (by simp) (by rw [up_arr hir]; exact h5.one hC hcx) (by simp [hir]) ?_⟩
    intro k hk
    exact Or.inl (Array.getElem?_setIfInBounds_ne (Ne.symm hk))
  cases q with
  | unset => exact plain (Or.inl hq)
  | val w =>
    by_cases hw : w.category = 2
    · have q2 := h5.1 i w hq hw
      have hj : i + 1 < r.size := (Array.getElem?_eq_some_iff.mp q2).1
      have Lu : ∀ k, (k = i ∨ k = i + 1) → ∀ s, L[k]? = some s → s = .unset := by
        intro k hk s hs
        cases s with
        | unset => rfl
        | second =>
          rcases hk with rfl | rfl
          · exact absurd hs n1
          · obtain ⟨j, u, e1, e2, e3⟩ := h4.2 _ hs
            have : j = i := by omega
            subst this
            exact absurd e3 (n2 u e2)
        | val u =>
          rcases hk with rfl | rfl
          · have := h2 _ _ hs
            rw [hq] at this
            cases this
            rw [rv_cat] at hw
            exact absurd hw (n2 u hs)
          · have := h2 _ _ hs
            have q3 : r[i + 1]? = some .second := q2
            rw [q3] at this; cases this
      have hs : storeLocals r i (rv ρ v) = some ((r.setIfInBounds (i + 1) .unset).setIfInBounds i (.val (rv ρ v))) := by
        simp [storeLocals, storeSelf, setAt, hq, (Array.getElem?_eq_some_iff.mp hq).2, hw, hj, hir, hcv]
      refine ⟨_, hs, fin _ (by simp) ?_ (by simp [hir]) ?_⟩
      · have e : (fun k => ((r.setIfInBounds (i + 1) .unset).setIfInBounds i (.val (rv ρ v)))[k]?) = up (up (up (fun k => r[k]?) i .unset) (i + 1) .unset) i (.val (rv ρ v)) := by
          rw [up_arr (by simpa using hir), up_arr hj]
          funext k
          simp only [up]
          by_cases e : k = i
          · simp [e]
          · simp [e]
        rw [e]
        exact (h5.clr hq hw).one (Or.inl (by simp [up])) hcx
      · intro k hk
        by_cases e : k = i + 1
        · exact Or.inr (Lu k (Or.inr e))
        · left
          rw [Array.getElem?_setIfInBounds_ne (Ne.symm hk), Array.getElem?_setIfInBounds_ne (Ne.symm e)]
    · refine plain (Or.inr ⟨w, hq, ?_⟩)
      cases w <;> simp [Value.category] at hw ⊢
  | second =>
    obtain ⟨j, u, e1, e2, e3⟩ := h5.2 i hq
    subst e1
    have e2' : r[j]? = some (.val u) := e2
    have hj : j < r.size := by omega
    have Lu : ∀ s, L[j]? = some s → s = .unset := by
      intro s hs
      cases s with
      | unset => rfl
      | second => have := h3 _ hs; rw [e2'] at this; cases this
      | val w =>
        have := h2 _ _ hs
        rw [e2'] at this
        cases this
        rw [rv_cat] at e3
        exact absurd (h4.1 j w hs e3) n1
    have hs : storeLocals r (j + 1) (rv ρ v) = some ((r.setIfInBounds j .unset).setIfInBounds (j + 1) (.val (rv ρ v))) := by
      simp [storeLocals, storeSelf, setAt, hq, (Array.getElem?_eq_some_iff.mp hq).2, hj, hir, hcv]
    refine ⟨_, hs, fin _ (by simp) ?_ (by simp [hir]) ?_⟩
    · have e : (fun k => ((r.setIfInBounds j .unset).setIfInBounds (j + 1) (.val (rv ρ v)))[k]?) = up (up (up (fun k => r[k]?) j .unset) (j + 1) .unset) (j + 1) (.val (rv ρ v)) := by
        rw [up_arr (by simpa using hir), up_arr hj]
        funext k
        simp only [up]
        by_cases e : k = j + 1
        · simp [e]
        · simp [e]
      rw [e]
      exact (h5.clr e2 e3).one (Or.inl (by simp [up])) hcx
    · intro k hk
      by_cases e : k = j
      · subst e; exact Or.inr Lu
      · left
        rw [Array.getElem?_setIfInBounds_ne (Ne.symm hk), Array.getElem?_setIfInBounds_ne (Ne.symm e)]
end Jvm.Own

namespace Jvm.Own
open Jvm Jvm.ClassFile Sem Op Lib Jvm.Free Jvm.Stand Jvm.LawKit Jvm.RoadKit
theorem cat12 (w : Value) (h : ¬ w.category = 2) : w.category = 1 := by cases w <;> simp [Value.category] at h ⊢
theorem getset_ne {r : Array Slot} {i k : Nat} {x t : Slot} (h : r[k]? = some t) (ne : i ≠ k) (hk : k < (r.setIfInBounds i x).size) : (r.setIfInBounds i x)[k] = t := by
  have q : (r.setIfInBounds i x)[k]? = some t := by rw [Array.getElem?_setIfInBounds_ne ne]; exact h
  exact (Array.getElem?_eq_some_iff.mp q).2
/-- a store of two words over nothing or single words -/
theorem SR.st2 {ρ : Nat → Addr} {L : List Slot} {r : Array Slot} {i : Nat} {v : Value} (h : SR ρ L r) (ho : C1 L[i]?) (ho' : C1 L[i + 1]?) (hv : v.category = 2) :
    ∃ r', storeLocals r i (rv ρ v) = some r' ∧ SR ρ ((L.set i (.val v)).set (i + 1) .second) r' := by
  obtain ⟨h1, h2, h3, h4, h5⟩ := h
  have hi : i + 1 < L.length := by
    rcases ho' with h | ⟨w, h, -⟩ <;> exact (List.getElem?_eq_some_iff.mp h).1
  have hir1 : i + 1 < r.size := by omega
  have hir : i < r.size := by omega
  have hcv : (rv ρ v).category = 2 := by rw [rv_cat]; exact hv
  obtain ⟨n1, n2⟩ := ho.not2
  obtain ⟨m1, m2⟩ := ho'.not2
  have nr : ∀ w, r[i]? = some (.val w) → ∀ u, L[i]? = some (.val u) → w.category = 2 → False := by
    intro w hw u hu hc
    have := h2 _ _ hu
    rw [hw] at this; cases this
    rw [rv_cat] at hc
    exact n2 u hu hc
  have fin : ∀ r' : Array Slot, r'.size = r.size → WR (fun k => r'[k]?) → r'[i]? = some (.val (rv ρ v)) → r'[i + 1]? = some .second → (∀ k, k ≠ i → k ≠ i + 1 → r'[k]? = r[k]? ∨ ∀ s, L[k]? = some s → s = .unset) → SR ρ ((L.set i (.val v)).set (i + 1) .second) r' := by
    intro r' a1 a2 a3 a3' a4
    refine ⟨by rw [a1, h1]; simp, ?_, ?_, by rw [up_lst (by simpa using hi), up_lst (by omega)]; exact h4.two ho ho' hv, a2⟩
    · intro k w hk
      rw [List.getElem?_set] at hk
      by_cases e : i + 1 = k
      · subst e; simp [hi] at hk
      · rw [if_neg e, List.getElem?_set] at hk
        by_cases e2 : i = k
        · subst e2; simp [show i < L.length by omega] at hk; subst hk; exact a3
        · rw [if_neg e2] at hk
          rcases a4 k (Ne.symm e2) (Ne.symm e) with q | q
          · rw [q]; exact h2 k w hk
          · cases q _ hk
    · intro k hk
      rw [List.getElem?_set] at hk
      by_cases e : i + 1 = k
      · subst e; exact a3'
      · rw [if_neg e, List.getElem?_set] at hk
        by_cases e2 : i = k
        · subst e2; simp [show i < L.length by omega] at hk
        · rw [if_neg e2] at hk
          rcases a4 k (Ne.symm e2) (Ne.symm e) with q | q
          · rw [q]; exact h3 k hk
          · cases q _ hk
  have Lun2 : ∀ u, r[i + 1]? = some (.val u) → u.category = 2 → ∀ s, L[i + 2]? = some s → s = .unset := by
    intro u hu hc s hs
    have q2 : r[i + 2]? = some .second := h5.1 (i + 1) u hu hc
    cases s with
    | unset => rfl
    | second =>
      obtain ⟨j, w, e1, e2, e3⟩ := h4.2 _ hs
      have : j = i + 1 := by omega
      subst this
      exact absurd e3 (m2 w e2)
    | val w => have := h2 _ _ hs; rw [q2] at this; cases this
  obtain ⟨q, hq⟩ : ∃ q, r[i]? = some q := ⟨_, Array.getElem?_eq_getElem hir⟩
  obtain ⟨q1, hq1⟩ : ∃ q, r[i + 1]? = some q := ⟨_, Array.getElem?_eq_getElem hir1⟩
  have ne1 : i + 1 ≠ i := by omega
  cases q with
  | unset =>
    have hC : C1 (r[i]?) := Or.inl hq
    cases q1 with
    | unset =>
      refine ⟨(r.setIfInBounds i (.val (rv ρ v))).setIfInBounds (i + 1) .second, by simp [storeLocals, storeSelf, setAt, hq, (Array.getElem?_eq_some_iff.mp hq).2, hq1, (Array.getElem?_eq_some_iff.mp hq1).2, hir, hir1, hcv, Array.getElem?_setIfInBounds], fin _ (by simp) ?_ (by simp [hir, Array.getElem?_setIfInBounds]) (by simp [hir1]) ?_⟩
      · rw [up_arr (by simpa using hir1), up_arr hir]; exact h5.two hC (Or.inl hq1) hcv
      · intro k a b; left; rw [Array.getElem?_setIfInBounds_ne (Ne.symm b), Array.getElem?_setIfInBounds_ne (Ne.symm a)]
    | second => obtain ⟨j, w, e1, e2, e3⟩ := h5.2 _ hq1; have : j = i := by omega
                subst this; have e2' : r[j]? = some (.val w) := e2; rw [hq] at e2'; cases e2'
    | val u =>
      by_cases hu : u.category = 2
      · have q2 : r[i + 2]? = some .second := h5.1 (i + 1) u hq1 hu
        have hi2 : i + 2 < r.size := (Array.getElem?_eq_some_iff.mp q2).1
        refine ⟨((r.setIfInBounds i (.val (rv ρ v))).setIfInBounds (i + 2) .unset).setIfInBounds (i + 1) .second, by simp [storeLocals, storeSelf, setAt, hq, (Array.getElem?_eq_some_iff.mp hq).2, hq1, (Array.getElem?_eq_some_iff.mp hq1).2, hir, hir1, hi2, hcv, hu, Array.getElem?_setIfInBounds], fin _ (by simp) ?_ (by simp [hir, Array.getElem?_setIfInBounds]) (by simp [hir1]) ?_⟩
        · have e : (fun k => (((r.setIfInBounds i (.val (rv ρ v))).setIfInBounds (i + 2) .unset).setIfInBounds (i + 1) .second)[k]?) = up (up (up (up (fun k => r[k]?) (i + 1) .unset) (i + 2) .unset) i (.val (rv ρ v))) (i + 1) .second := by
            rw [up_arr (by simpa using hir1), up_arr (by simpa using hi2), up_arr hir]
            funext k
            simp only [up]
            by_cases e : k = i + 1
            · simp [e]
            · by_cases e2 : k = i
              · simp [e2]
              · simp [e, e2]
          rw [e]
          exact (h5.clr hq1 hu).two (Or.inl (by simp [up, hq] <;> omega)) (Or.inl (by simp [up] <;> omega)) hcv
        · intro k a b
          by_cases e : k = i + 2
          · subst e; exact Or.inr (Lun2 u hq1 hu)
          · left; rw [Array.getElem?_setIfInBounds_ne (Ne.symm b), Array.getElem?_setIfInBounds_ne (Ne.symm e), Array.getElem?_setIfInBounds_ne (Ne.symm a)]
      · refine ⟨(r.setIfInBounds i (.val (rv ρ v))).setIfInBounds (i + 1) .second, by simp [storeLocals, storeSelf, setAt, hq, (Array.getElem?_eq_some_iff.mp hq).2, hq1, (Array.getElem?_eq_some_iff.mp hq1).2, hir, hir1, hcv, hu, Array.getElem?_setIfInBounds], fin _ (by simp) ?_ (by simp [hir, Array.getElem?_setIfInBounds]) (by simp [hir1]) ?_⟩
        · rw [up_arr (by simpa using hir1), up_arr hir]; exact h5.two hC (Or.inr ⟨u, hq1, cat12 u hu⟩) hcv
        · intro k a b; left; rw [Array.getElem?_setIfInBounds_ne (Ne.symm b), Array.getElem?_setIfInBounds_ne (Ne.symm a)]
  | val w =>
    by_cases hw : w.category = 2
    · have q2 : r[i + 1]? = some .second := h5.1 i w hq hw
      have Lu : ∀ s, L[i]? = some s → s = .unset := by
        intro s hs
        cases s with
        | unset => rfl
        | second => exact absurd hs n1
        | val u => exact (nr w hq u hs hw).elim
      refine ⟨((r.setIfInBounds (i + 1) .unset).setIfInBounds i (.val (rv ρ v))).setIfInBounds (i + 1) .second, by simp [storeLocals, storeSelf, setAt, hq, (Array.getElem?_eq_some_iff.mp hq).2, hw, hir, hir1, hcv, Array.getElem?_setIfInBounds], fin _ (by simp) ?_ (by simp [hir, Array.getElem?_setIfInBounds]) (by simp [hir1]) ?_⟩
      · have e : (fun k => (((r.setIfInBounds (i + 1) .unset).setIfInBounds i (.val (rv ρ v))).setIfInBounds (i + 1) .second)[k]?) = up (up (up (up (fun k => r[k]?) i .unset) (i + 1) .unset) i (.val (rv ρ v))) (i + 1) .second := by
          rw [up_arr (by simpa using hir1), up_arr (by simpa using hir), up_arr hir1]
          funext k
          simp only [up]
          by_cases e : k = i + 1
          · simp [e]
          · by_cases e2 : k = i
            · simp [e2]
            · simp [e, e2]
        rw [e]
        exact (h5.clr hq hw).two (Or.inl (by simp [up] <;> omega)) (Or.inl (by simp [up] <;> omega)) hcv
      · intro k a b
        left; rw [Array.getElem?_setIfInBounds_ne (Ne.symm b), Array.getElem?_setIfInBounds_ne (Ne.symm a), Array.getElem?_setIfInBounds_ne (Ne.symm b)]
    · have hC : C1 (r[i]?) := Or.inr ⟨w, hq, cat12 w hw⟩
      cases q1 with
      | unset =>
        refine ⟨(r.setIfInBounds i (.val (rv ρ v))).setIfInBounds (i + 1) .second, by simp [storeLocals, storeSelf, setAt, hq, (Array.getElem?_eq_some_iff.mp hq).2, hq1, (Array.getElem?_eq_some_iff.mp hq1).2, hw, hir, hir1, hcv, Array.getElem?_setIfInBounds], fin _ (by simp) ?_ (by simp [hir, Array.getElem?_setIfInBounds]) (by simp [hir1]) ?_⟩
        · rw [up_arr (by simpa using hir1), up_arr hir]; exact h5.two hC (Or.inl hq1) hcv
        · intro k a b; left; rw [Array.getElem?_setIfInBounds_ne (Ne.symm b), Array.getElem?_setIfInBounds_ne (Ne.symm a)]
      | second => obtain ⟨j, u, e1, e2, e3⟩ := h5.2 _ hq1; have : j = i := by omega
                  subst this; have e2' : r[j]? = some (.val u) := e2; rw [hq] at e2'; cases e2'; exact absurd e3 hw
      | val u =>
        by_cases hu : u.category = 2
        · have q2 : r[i + 2]? = some .second := h5.1 (i + 1) u hq1 hu
          have hi2 : i + 2 < r.size := (Array.getElem?_eq_some_iff.mp q2).1
          refine ⟨((r.setIfInBounds i (.val (rv ρ v))).setIfInBounds (i + 2) .unset).setIfInBounds (i + 1) .second, by simp [storeLocals, storeSelf, setAt, hq, (Array.getElem?_eq_some_iff.mp hq).2, hq1, (Array.getElem?_eq_some_iff.mp hq1).2, hw, hir, hir1, hi2, hcv, hu, Array.getElem?_setIfInBounds], fin _ (by simp) ?_ (by simp [hir, Array.getElem?_setIfInBounds]) (by simp [hir1]) ?_⟩
          · have e : (fun k => (((r.setIfInBounds i (.val (rv ρ v))).setIfInBounds (i + 2) .unset).setIfInBounds (i + 1) .second)[k]?) = up (up (up (up (fun k => r[k]?) (i + 1) .unset) (i + 2) .unset) i (.val (rv ρ v))) (i + 1) .second := by
              rw [up_arr (by simpa using hir1), up_arr (by simpa using hi2), up_arr hir]
              funext k
              simp only [up]
              by_cases e : k = i + 1
              · simp [e]
              · by_cases e2 : k = i
                · simp [e2]
                · simp [e, e2]
            rw [e]
            exact (h5.clr hq1 hu).two (Or.inr ⟨w, by simp [up, hq] <;> omega, cat12 w hw⟩) (Or.inl (by simp [up] <;> omega)) hcv
          · intro k a b
            by_cases e : k = i + 2
            · subst e; exact Or.inr (Lun2 u hq1 hu)
            · left; rw [Array.getElem?_setIfInBounds_ne (Ne.symm b), Array.getElem?_setIfInBounds_ne (Ne.symm e), Array.getElem?_setIfInBounds_ne (Ne.symm a)]
        · refine ⟨(r.setIfInBounds i (.val (rv ρ v))).setIfInBounds (i + 1) .second, by simp [storeLocals, storeSelf, setAt, hq, (Array.getElem?_eq_some_iff.mp hq).2, hq1, (Array.getElem?_eq_some_iff.mp hq1).2, hw, hir, hir1, hcv, hu, Array.getElem?_setIfInBounds], fin _ (by simp) ?_ (by simp [hir, Array.getElem?_setIfInBounds]) (by simp [hir1]) ?_⟩
          · rw [up_arr (by simpa using hir1), up_arr hir]; exact h5.two hC (Or.inr ⟨u, hq1, cat12 u hu⟩) hcv
          · intro k a b; left; rw [Array.getElem?_setIfInBounds_ne (Ne.symm b), Array.getElem?_setIfInBounds_ne (Ne.symm a)]
  | second =>
    obtain ⟨j, y, e1, e2, e3⟩ := h5.2 i hq
    subst e1
    have e2' : r[j]? = some (.val y) := e2
    have hj : j < r.size := by omega
    have Lu : ∀ s, L[j]? = some s → s = .unset := by
      intro s hs
      cases s with
      | unset => rfl
      | second => have := h3 _ hs; rw [e2'] at this; cases this
      | val w =>
        have := h2 _ _ hs
        rw [e2'] at this
        cases this
        rw [rv_cat] at e3
        exact absurd (h4.1 j w hs e3) n1
    have W5 := h5.clr e2 e3
    cases q1 with
    | unset =>
      refine ⟨((r.setIfInBounds j .unset).setIfInBounds (j + 1) (.val (rv ρ v))).setIfInBounds (j + 1 + 1) .second, by simp [storeLocals, storeSelf, setAt, hq, (Array.getElem?_eq_some_iff.mp hq).2, hq1, (Array.getElem?_eq_some_iff.mp hq1).2, getset_ne hq1 (show j ≠ j + 1 + 1 by omega), hj, hir, hir1, hcv, Array.getElem?_setIfInBounds], fin _ (by simp) ?_ (by simp [hir, Array.getElem?_setIfInBounds]) (by simp [hir1]) ?_⟩
      · have e : (fun k => (((r.setIfInBounds j .unset).setIfInBounds (j + 1) (.val (rv ρ v))).setIfInBounds (j + 1 + 1) .second)[k]?) = up (up (up (up (fun k => r[k]?) j .unset) (j + 1) .unset) (j + 1) (.val (rv ρ v))) (j + 1 + 1) .second := by
          rw [up_arr (by simpa using hir1), up_arr (by simpa using hir), up_arr hj]
          funext k
          simp only [up]
          by_cases e : k = j + 1 + 1
          · simp [e]
          · by_cases e2 : k = j + 1
            · simp [e2]
            · simp [e, e2]
        rw [e]
        exact W5.two (Or.inl (by simp [up] <;> omega)) (Or.inl (by simp [up, hq1] <;> omega)) hcv
      · intro k a b
        by_cases e : k = j
        · subst e; exact Or.inr Lu
        · left; rw [Array.getElem?_setIfInBounds_ne (Ne.symm b), Array.getElem?_setIfInBounds_ne (Ne.symm a), Array.getElem?_setIfInBounds_ne (Ne.symm e)]
    | second => obtain ⟨k, w, f1, f2, f3⟩ := h5.2 _ hq1; have : k = j + 1 := by omega
                subst this; have f2' : r[j + 1]? = some (.val w) := f2; rw [hq] at f2'; cases f2'
    | val u =>
      by_cases hu : u.category = 2
      · have q2 : r[j + 1 + 2]? = some .second := h5.1 (j + 1 + 1) u hq1 hu
        have hi2 : j + 1 + 2 < r.size := (Array.getElem?_eq_some_iff.mp q2).1
        refine ⟨(((r.setIfInBounds j .unset).setIfInBounds (j + 1) (.val (rv ρ v))).setIfInBounds (j + 1 + 2) .unset).setIfInBounds (j + 1 + 1) .second, by simp [storeLocals, storeSelf, setAt, hq, (Array.getElem?_eq_some_iff.mp hq).2, hq1, (Array.getElem?_eq_some_iff.mp hq1).2, getset_ne hq1 (show j ≠ j + 1 + 1 by omega), hj, hir, hir1, hi2, hcv, hu, Array.getElem?_setIfInBounds], fin _ (by simp) ?_ (by simp [hir, Array.getElem?_setIfInBounds]) (by simp [hir1]) ?_⟩
        · have e : (fun k => ((((r.setIfInBounds j .unset).setIfInBounds (j + 1) (.val (rv ρ v))).setIfInBounds (j + 1 + 2) .unset).setIfInBounds (j + 1 + 1) .second)[k]?) = up (up (up (up (up (up (fun k => r[k]?) j .unset) (j + 1) .unset) (j + 1 + 1) .unset) (j + 1 + 1 + 1) .unset) (j + 1) (.val (rv ρ v))) (j + 1 + 1) .second := by
            rw [up_arr (by simpa using hir1), up_arr (by simpa using hi2), up_arr (by simpa using hir), up_arr hj]
            funext k
            simp only [up]
            by_cases e : k = j + 1 + 1
            · simp [e]
            · by_cases e2 : k = j + 1
              · simp [e2]
              · simp [e, e2]
          rw [e]
          exact (W5.clr (j := j + 1 + 1) (v := u) (by simp [up, hq1] <;> omega) hu).two (Or.inl (by simp [up] <;> omega)) (Or.inl (by simp [up] <;> omega)) hcv
        · intro k a b
          by_cases e : k = j
          · subst e; exact Or.inr Lu
          · by_cases e4 : k = j + 1 + 2
            · subst e4; exact Or.inr (Lun2 u hq1 hu)
            · left; rw [Array.getElem?_setIfInBounds_ne (Ne.symm b), Array.getElem?_setIfInBounds_ne (Ne.symm e4), Array.getElem?_setIfInBounds_ne (Ne.symm a), Array.getElem?_setIfInBounds_ne (Ne.symm e)]
      · refine ⟨((r.setIfInBounds j .unset).setIfInBounds (j + 1) (.val (rv ρ v))).setIfInBounds (j + 1 + 1) .second, by simp [storeLocals, storeSelf, setAt, hq, (Array.getElem?_eq_some_iff.mp hq).2, hq1, (Array.getElem?_eq_some_iff.mp hq1).2, getset_ne hq1 (show j ≠ j + 1 + 1 by omega), hj, hir, hir1, hcv, hu, Array.getElem?_setIfInBounds], fin _ (by simp) ?_ (by simp [hir, Array.getElem?_setIfInBounds]) (by simp [hir1]) ?_⟩
        · have e : (fun k => (((r.setIfInBounds j .unset).setIfInBounds (j + 1) (.val (rv ρ v))).setIfInBounds (j + 1 + 1) .second)[k]?) = up (up (up (up (fun k => r[k]?) j .unset) (j + 1) .unset) (j + 1) (.val (rv ρ v))) (j + 1 + 1) .second := by
            rw [up_arr (by simpa using hir1), up_arr (by simpa using hir), up_arr hj]
            funext k
            simp only [up]
            by_cases e : k = j + 1 + 1
            · simp [e]
            · by_cases e2 : k = j + 1
              · simp [e2]
              · simp [e, e2]
          rw [e]
          exact W5.two (Or.inl (by simp [up] <;> omega)) (Or.inr ⟨u, by simp [up, hq1] <;> omega, cat12 u hu⟩) hcv
        · intro k a b
          by_cases e : k = j
          · subst e; exact Or.inr Lu
          · left; rw [Array.getElem?_setIfInBounds_ne (Ne.symm b), Array.getElem?_setIfInBounds_ne (Ne.symm a), Array.getElem?_setIfInBounds_ne (Ne.symm e)]
/-- which lists of slots are laid out well -/
def wfL : List Slot → Bool
  | [] => true
  | .unset :: t => wfL t
  | .second :: _ => false
  | [.val v] => decide (v.category = 1)
  | .val v :: .second :: t => decide (v.category = 2) && wfL t
  | .val v :: .unset :: t => decide (v.category = 1) && wfL t
  | .val v :: .val u :: t => decide (v.category = 1) && wfL (.val u :: t)
/-- the walk forgets the variables that the mask marks -/
def fg : List Bool → List Slot → List Slot
  | true :: b, _ :: t => .unset :: fg b t
  | false :: b, s :: t => s :: fg b t
  | _, t => t
theorem WR.nil : WR (fun k => ([] : List Slot)[k]?) := ⟨fun i v h => by simp at h, fun i h => by simp at h⟩
theorem WR.cons1 {t : List Slot} {s : Slot} (h : WR (fun k => t[k]?)) (hs : C1 (some s)) : WR (fun k => (s :: t)[k]?) := by
  obtain ⟨n1, n2⟩ := hs.not2
  constructor
  · intro i v hi hv
    cases i with
    | zero => exact absurd hv (n2 v (by simpa using hi))
    | succ i => have := h.1 i v (by simpa using hi) hv; simpa using this
  · intro i hi
    cases i with
    | zero => exact absurd (by simpa using hi) n1
    | succ i => obtain ⟨j, v, e1, e2, e3⟩ := h.2 i (by simpa using hi); exact ⟨j + 1, v, by omega, by simpa using e2, e3⟩
theorem WR.cons2 {t : List Slot} {w : Value} (h : WR (fun k => t[k]?)) (hw : w.category = 2) : WR (fun k => (Slot.val w :: .second :: t)[k]?) := by
  constructor
  · intro i v hi hv
    match i with
    | 0 => simp
    | 1 => simp at hi
    | i + 2 => have := h.1 i v (by simpa using hi) hv; simpa using this
  · intro i hi
    match i with
    | 0 => simp at hi
    | 1 => exact ⟨0, w, rfl, by simp, hw⟩
    | i + 2 => obtain ⟨j, v, e1, e2, e3⟩ := h.2 i (by simpa using hi); exact ⟨j + 2, v, by omega, by simpa using e2, e3⟩
theorem WR.of_wfL : (L : List Slot) → wfL L = true → WR (fun k => L[k]?)
  | [], _ => WR.nil
  | .unset :: t, h => (WR.of_wfL t h).cons1 (Or.inl rfl)
  | .second :: _, h => by simp [wfL] at h
  | [.val v], h => WR.nil.cons1 (Or.inr ⟨v, rfl, by simpa [wfL] using h⟩)
  | .val v :: .second :: t, h => by simp [wfL] at h; exact (WR.of_wfL t h.2).cons2 h.1
  | .val v :: .unset :: t, h => by simp [wfL] at h; exact ((WR.of_wfL t h.2).cons1 (Or.inl rfl)).cons1 (Or.inr ⟨v, rfl, h.1⟩)
  | .val v :: .val u :: t, h => by
    have h' : decide (v.category = 1) = true ∧ wfL (.val u :: t) = true := by rw [wfL, Bool.and_eq_true] at h; exact h
    exact (WR.of_wfL (.val u :: t) h'.2).cons1 (Or.inr ⟨v, rfl, of_decide_eq_true h'.1⟩)
theorem fg_length : (b : List Bool) → (L : List Slot) → (fg b L).length = L.length
  | true :: b, _ :: t => by simp [fg, fg_length b t]
  | false :: b, s :: t => by simp [fg, fg_length b t]
  | [], t => by simp [fg]
  | true :: _, [] => by simp [fg]
  | false :: _, [] => by simp [fg]
theorem fg_get : (b : List Bool) → (L : List Slot) → ∀ (i : Nat) (s : Slot), (fg b L)[i]? = some s → s = .unset ∨ L[i]? = some s
  | true :: b, x :: t, i, s, h => by
    cases i with
    | zero => left; simpa [fg] using h.symm
    | succ i => have := fg_get b t i s (by simpa [fg] using h); simpa using this
  | false :: b, x :: t, i, s, h => by
    cases i with
    | zero => right; simpa [fg] using h
    | succ i => have := fg_get b t i s (by simpa [fg] using h); simpa using this
  | [], t, i, s, h => by right; simpa [fg] using h
  | true :: _, [], i, s, h => by right; simpa [fg] using h
  | false :: _, [], i, s, h => by right; simpa [fg] using h
theorem SR.forget {ρ : Nat → Addr} {L : List Slot} {r : Array Slot} (h : SR ρ L r) (b : List Bool) (hw : wfL (fg b L) = true) : SR ρ (fg b L) r := by
  obtain ⟨h1, h2, h3, h4, h5⟩ := h
  refine ⟨by rw [fg_length]; exact h1, fun i v hi => ?_, fun i hi => ?_, WR.of_wfL _ hw, h5⟩
  · rcases fg_get _ _ _ _ hi with e | e
    · cases e
    · exact h2 i v e
  · rcases fg_get _ _ _ _ hi with e | e
    · cases e
    · exact h3 i e
/-- at a method's entry -/
theorem a2l (ρ : Nat → Addr) (as : List Value) (mx : Nat) : argsToLocals (as.map (rv ρ)).toArray mx = (argsToLocals as.toArray mx).map (rs ρ) := by
  have key : ∀ (as : List Value) (acc : Array Slot), (as.map (rv ρ)).foldl (fun acc v => if v.category = 2 then (acc.push (.val v)).push .second else acc.push (.val v)) (acc.map (rs ρ)) = (as.foldl (fun acc v => if v.category = 2 then (acc.push (.val v)).push .second else acc.push (.val v)) acc).map (rs ρ) := by
    intro as
    induction as with
    | nil => intro acc; rfl
    | cons v t ih =>
      intro acc
      simp only [List.map_cons, List.foldl_cons, rv_cat]
      by_cases hv : v.category = 2
      · rw [if_pos hv, if_pos hv, ← ih]; simp [Array.map_push, rs]
      · rw [if_neg hv, if_neg hv, ← ih]; simp [Array.map_push, rs]
  have k0 := key as #[]
  simp only [Array.map_empty] at k0
  simp only [argsToLocals, List.foldl_toArray', List.size_toArray]
  simp only [k0, Array.map_append, Array.size_map, Array.map_replicate, rs]
theorem SR.entry (ρ : Nat → Addr) (as : List Value) (mx : Nat) {L : List Slot} (hL : (argsToLocals as.toArray mx).toList = L) (hw : wfL L = true) : SR ρ L (argsToLocals (as.map (rv ρ)).toArray mx) := by
  subst hL
  rw [a2l]
  have hW := WR.of_wfL _ hw
  generalize argsToLocals as.toArray mx = A at hW
  have g : ∀ i : Nat, (A.map (rs ρ))[i]? = (A.toList[i]?).map (rs ρ) := by intro i; simp
  refine ⟨by simp, fun i v hi => by rw [g, hi]; rfl, fun i hi => by rw [g, hi]; rfl, hW, ?_, ?_⟩
  · intro i v hi hv
    have hi' : (A.toList[i]?).map (rs ρ) = some (.val v) := by rw [← g]; exact hi
    cases hs : A.toList[i]? with
    | none => rw [hs] at hi'; cases hi'
    | some s =>
      rw [hs] at hi'
      cases s with
      | unset => cases hi'
      | second => cases hi'
      | val u =>
        cases hi'
        have := hW.1 i u hs (by rwa [rv_cat] at hv)
        show (A.map (rs ρ))[i + 1]? = _
        rw [g]
        have t : A.toList[i + 1]? = some .second := this
        rw [t]; rfl
  · intro i hi
    have hi' : (A.toList[i]?).map (rs ρ) = some .second := by rw [← g]; exact hi
    cases hs : A.toList[i]? with
    | none => rw [hs] at hi'; cases hi'
    | some s =>
      rw [hs] at hi'
      cases s with
      | unset => cases hi'
      | val u => cases hi'
      | second =>
        obtain ⟨j, v, e1, e2, e3⟩ := hW.2 i hs
        refine ⟨j, rv ρ v, e1, ?_, by rw [rv_cat]; exact e3⟩
        show (A.map (rs ρ))[j]? = _
        rw [g]
        have t : A.toList[j]? = some (.val v) := e2
        rw [t]; rfl
end Jvm.Own

namespace Jvm.Own
open Jvm Jvm.ClassFile Sem Op Lib Jvm.Free Jvm.Stand Jvm.LawKit Jvm.RoadKit
/-! ## 2. A method's data; what it means that a walk from a point of it comes to an end -/
/-- name, bytes, number of variables, what it returns, room, cells that it makes -/
abbrev MD : Type := MethodName × ByteArray × Nat × Option FieldType × Room × Nat
abbrev nmOf (md : MD) : MethodName := md.1
abbrev byOf (md : MD) : ByteArray := md.2.1
abbrev mxOf (md : MD) : Nat := md.2.2.1
abbrev rtOf (md : MD) : Option FieldType := md.2.2.2.1
abbrev rmOf (md : MD) : Room := md.2.2.2.2.1
abbrev exOf (md : MD) : Nat := md.2.2.2.2.2
/-- the class whose methods are walked; where the walk's references point; the first new address; what the heap holds; what a walk leaves alone -/
abbrev Mode (μ E : Type) : Type := String × (E → Nat → Addr) × (E → Nat) × (E → μ → Heap → Prop) × (E → Heap → Heap → Prop)
abbrev Mode.own {μ E : Type} (M : Mode μ E) : String := M.1
abbrev Mode.rho {μ E : Type} (M : Mode μ E) : E → Nat → Addr := M.2.1
abbrev Mode.lo {μ E : Type} (M : Mode μ E) : E → Nat := M.2.2.1
abbrev Mode.rel {μ E : Type} (M : Mode μ E) : E → μ → Heap → Prop := M.2.2.2.1
abbrev Mode.frm {μ E : Type} (M : Mode μ E) : E → Heap → Heap → Prop := M.2.2.2.2
def Kn (Z : State) (own : String) (md : MD) (p : Program) (s : State) (m : MethodId) (meth : Method) (c : Code) : Prop :=
  p.tables.exec = Jvm.exec ∧ Z.Warmed39 s.vm ∧ s.vm.findClass own = some m.cls ∧ meth.name = (nmOf md).name ∧ meth.sig.returnType = rtOf md ∧ meth.locks = false ∧ c.code = byOf md ∧ c.maxLocals = mxOf md
def Done {μ E : Type} (l : Launch) (M : Mode μ E) (md : MD) (Q : Option Value → μ → Prop) (en : E) (p : Program) (e : Env) (s : State) (m : MethodId) (args : Array Value) (below : List Frame) (meth : Method) (c : Code) (T : State) (g : JFrame) : Prop :=
  ∃ (T' : State) (locs' : List Loc) (su' : Nat) (v : Option Value) (w' : μ), Stand p l e (rmOf md) s m args below meth c T' locs' (exOf md) su' ∧ exOf md ≤ (rmOf md).cells ∧ su' ≤ (rmOf md).slots ∧ T'.heap.size = s.heap.size + exOf md ∧ Fr (M.lo en) locs' ∧ M.rel en w' T'.heap ∧ M.frm en T.heap T'.heap ∧
    (meth.sig.returnType = none → v = none) ∧ (∀ ρ x, v = some x → rv ρ x = x) ∧ Q v w' ∧
    ∀ fs, (∀ (f : JFrame) (acts : List Action), f.method = m → f.locked = none → f.entered = [] → (doReturn e (T'.setTop f) acts v).1 = T'.setFrames fs) → Steps p.tables e below (T.setTop g) (T'.setFrames fs)
/-- from the pc, with these variables and operands, over w, the walk returns with what Q says -/
def Wk {μ E : Type} (l : Launch) (Z : State) (M : Mode μ E) (md : MD) (pc : Nat) (L : List Slot) (S : List Value) (w : μ) (cu su : Nat) (Q : Option Value → μ → Prop) : Prop :=
  ∀ (en : E) (p : Program) (e : Env) (s : State) (m : MethodId) (args : Array Value) (below : List Frame) (meth : Method) (c : Code) (T : State) (locs : List Loc) (r : Array Slot),
    Stand p l e (rmOf md) s m args below meth c T locs cu su → Kn Z M.own md p s m meth c → T.heap.size = s.heap.size + cu → Fr (M.lo en) locs → M.rel en w T.heap → SR (M.rho en) L r →
    Done l M md Q en p e s m args below meth c T (mkF m pc r (S.map (rv (M.rho en))))
section Steps
variable {μ E : Type} {l : Launch} {Z : State} {M : Mode μ E} {md : MD} {pc pc' : Nat} {L L' : List Slot} {S : List Value} {w : μ} {cu su : Nat} {Q : Option Value → μ → Prop}
theorem Done.pre {en : E} {p : Program} {e : Env} {s : State} {m : MethodId} {args : Array Value} {below : List Frame} {meth : Method} {c : Code} {T T1 : State} {g g1 : JFrame} (h : Done l M md Q en p e s m args below meth c T1 g1) (hT : ∀ x, M.frm en T1.heap x → M.frm en T.heap x)
    (st : ∀ t, Steps p.tables e below (T1.setTop g1) t → Steps p.tables e below (T.setTop g) t) : Done l M md Q en p e s m args below meth c T g := by
  obtain ⟨T', locs', su', v, w', a1, a2, a3, a4, a5, a6, a7, a8, a9, a10, a11⟩ := h
  exact ⟨T', locs', su', v, w', a1, a2, a3, a4, a5, a6, hT _ a7, a8, a9, a10, fun fs hf => st _ (a11 fs hf)⟩
theorem Wk.mono {Q' : Option Value → μ → Prop} (h : Wk l Z M md pc L S w cu su Q) (hq : ∀ v w', Q v w' → Q' v w') : Wk l Z M md pc L S w cu su Q' := by
  intro en p e s m args below meth c T locs r X K hz hF hR hL
  obtain ⟨T', locs', su', v, w', a1, a2, a3, a4, a5, a6, a7, a8, a9, a10, a11⟩ := h en p e s m args below meth c T locs r X K hz hF hR hL
  exact ⟨T', locs', su', v, w', a1, a2, a3, a4, a5, a6, a7, a8, a9, hq _ _ a10, a11⟩
abbrev InsA (md : MD) (pc : Nat) (i : Instr) (n pc' : Nat) : Prop := decode (byOf md) pc = .ok (i, n) ∧ pc + n = pc'
abbrev InsB (md : MD) (pc : Nat) (i : Instr) (n pc' : Nat) (o : Int) (pt : Nat) : Prop := decode (byOf md) pc = .ok (i, n) ∧ pc + n = pc' ∧ 0 ≤ (pc : Int) + o ∧ ((pc : Int) + o).toNat = pt
theorem Kn.by {own : String} {p : Program} {s : State} {m : MethodId} {meth : Method} {c : Code} (K : Kn Z own md p s m meth c) : c.code = byOf md := K.2.2.2.2.2.2.1
theorem Wk.forget (b : List Bool) (hf : fg b L = L') (hw : wfL L' = true) (h : Wk l Z M md pc L' S w cu su Q) : Wk l Z M md pc L S w cu su Q :=
  fun en p e s m args below meth c T locs r X K hz hF hR hL => h en p e s m args below meth c T locs r X K hz hF hR (by subst hf; exact hL.forget b hw)
theorem Wk.iloadN {k : Fin 4} {v : Int32} (hd : InsA md pc (.iload_n k) 1 pc') (hl : L[k.val]? = some (.val (.int v))) (h : Wk l Z M md pc' L (.int v :: S) w cu su Q) : Wk l Z M md pc L (S) w cu su Q :=
  fun en p e s m args below meth c T locs r X K hz hF hR hL => by
  obtain ⟨hd, rfl⟩ := hd
  exact (h en p e s m args below meth c T locs r X K hz hF hR hL).pre (fun _ q => q) fun t k => XS.iloadN X.here K.1 rfl (hb K.by hd) (hL.get hl) k
theorem Wk.iload {k : Nat} {v : Int32} (hd : InsA md pc (.iload k) 2 pc') (hl : L[k]? = some (.val (.int v))) (h : Wk l Z M md pc' L (.int v :: S) w cu su Q) : Wk l Z M md pc L (S) w cu su Q :=
  fun en p e s m args below meth c T locs r X K hz hF hR hL => by
  obtain ⟨hd, rfl⟩ := hd
  exact (h en p e s m args below meth c T locs r X K hz hF hR hL).pre (fun _ q => q) fun t k => XS.iload X.here K.1 rfl (hb K.by hd) (hL.get hl) k
theorem Wk.lloadN {k : Fin 4} {v : Int64} (hd : InsA md pc (.lload_n k) 1 pc') (hl : L[k.val]? = some (.val (.long v))) (h : Wk l Z M md pc' L (.long v :: S) w cu su Q) : Wk l Z M md pc L (S) w cu su Q :=
  fun en p e s m args below meth c T locs r X K hz hF hR hL => by
  obtain ⟨hd, rfl⟩ := hd
  exact (h en p e s m args below meth c T locs r X K hz hF hR hL).pre (fun _ q => q) fun t k => XT.lloadN X.here K.1 rfl (hb K.by hd) (hL.get hl) k
theorem Wk.lload {k : Nat} {v : Int64} (hd : InsA md pc (.lload k) 2 pc') (hl : L[k]? = some (.val (.long v))) (h : Wk l Z M md pc' L (.long v :: S) w cu su Q) : Wk l Z M md pc L (S) w cu su Q :=
  fun en p e s m args below meth c T locs r X K hz hF hR hL => by
  obtain ⟨hd, rfl⟩ := hd
  exact (h en p e s m args below meth c T locs r X K hz hF hR hL).pre (fun _ q => q) fun t k => XT.lload X.here K.1 rfl (hb K.by hd) (hL.get hl) k
theorem Wk.aloadN {k : Fin 4} {v : Nat} (hd : InsA md pc (.aload_n k) 1 pc') (hl : L[k.val]? = some (.val (.ref v))) (h : Wk l Z M md pc' L (.ref v :: S) w cu su Q) : Wk l Z M md pc L (S) w cu su Q :=
  fun en p e s m args below meth c T locs r X K hz hF hR hL => by
  obtain ⟨hd, rfl⟩ := hd
  exact (h en p e s m args below meth c T locs r X K hz hF hR hL).pre (fun _ q => q) fun t k => XS.aloadN X.here K.1 rfl (hb K.by hd) (hL.get hl) rfl k
theorem Wk.aload {k : Nat} {v : Nat} (hd : InsA md pc (.aload k) 2 pc') (hl : L[k]? = some (.val (.ref v))) (h : Wk l Z M md pc' L (.ref v :: S) w cu su Q) : Wk l Z M md pc L (S) w cu su Q :=
  fun en p e s m args below meth c T locs r X K hz hF hR hL => by
  obtain ⟨hd, rfl⟩ := hd
  exact (h en p e s m args below meth c T locs r X K hz hF hR hL).pre (fun _ q => q) fun t k => XS.aload X.here K.1 rfl (hb K.by hd) (hL.get hl) rfl k
theorem Wk.iconst {i : Int} {z : Int32} (hd : InsA md pc (.iconst i) 1 pc') (hz' : Int32.ofInt i = z) (h : Wk l Z M md pc' L (.int z :: S) w cu su Q) : Wk l Z M md pc L (S) w cu su Q :=
  fun en p e s m args below meth c T locs r X K hz hF hR hL => by
  obtain ⟨hd, rfl⟩ := hd
  exact (h en p e s m args below meth c T locs r X K hz hF hR hL).pre (fun _ q => q) fun t k => XS.iconst X.here K.1 rfl (hb K.by hd) (by subst hz'; exact k)
theorem Wk.bipush {i : Int} {z : Int32} (hd : InsA md pc (.bipush i) 2 pc') (hz' : (Int8.ofInt i).toInt32 = z) (h : Wk l Z M md pc' L (.int z :: S) w cu su Q) : Wk l Z M md pc L (S) w cu su Q :=
  fun en p e s m args below meth c T locs r X K hz hF hR hL => by
  obtain ⟨hd, rfl⟩ := hd
  exact (h en p e s m args below meth c T locs r X K hz hF hR hL).pre (fun _ q => q) fun t k => XS.bipush X.here K.1 rfl (hb K.by hd) (by subst hz'; exact k)
theorem Wk.sipush {i : Int} {z : Int32} (hd : InsA md pc (.sipush i) 3 pc') (hz' : (Int16.ofInt i).toInt32 = z) (h : Wk l Z M md pc' L (.int z :: S) w cu su Q) : Wk l Z M md pc L (S) w cu su Q :=
  fun en p e s m args below meth c T locs r X K hz hF hR hL => by
  obtain ⟨hd, rfl⟩ := hd
  exact (h en p e s m args below meth c T locs r X K hz hF hR hL).pre (fun _ q => q) fun t k => XS.sipush X.here K.1 rfl (hb K.by hd) (by subst hz'; exact k)
theorem Wk.lconst {i : Fin 2} {z : Int64} (hd : InsA md pc (.lconst i) 1 pc') (hz' : Int64.ofNat i = z) (h : Wk l Z M md pc' L (.long z :: S) w cu su Q) : Wk l Z M md pc L (S) w cu su Q :=
  fun en p e s m args below meth c T locs r X K hz hF hR hL => by
  obtain ⟨hd, rfl⟩ := hd
  exact (h en p e s m args below meth c T locs r X K hz hF hR hL).pre (fun _ q => q) fun t k => XT.lconst X.here K.1 rfl (hb K.by hd) (by subst hz'; exact k)
theorem Wk.iadd {x y : Int32} (hd : InsA md pc (.iadd) 1 pc') (h : Wk l Z M md pc' L (.int (x + y) :: S) w cu su Q) : Wk l Z M md pc L (.int y :: .int x :: S) w cu su Q :=
  fun en p e s m args below meth c T locs r X K hz hF hR hL => by
  obtain ⟨hd, rfl⟩ := hd
  exact (h en p e s m args below meth c T locs r X K hz hF hR hL).pre (fun _ q => q) fun t k => XS.iadd X.here K.1 rfl (hb K.by hd) rfl k
theorem Wk.isub {x y : Int32} (hd : InsA md pc (.isub) 1 pc') (h : Wk l Z M md pc' L (.int (x - y) :: S) w cu su Q) : Wk l Z M md pc L (.int y :: .int x :: S) w cu su Q :=
  fun en p e s m args below meth c T locs r X K hz hF hR hL => by
  obtain ⟨hd, rfl⟩ := hd
  exact (h en p e s m args below meth c T locs r X K hz hF hR hL).pre (fun _ q => q) fun t k => XS.isub X.here K.1 rfl (hb K.by hd) rfl k
theorem Wk.imul {x y : Int32} (hd : InsA md pc (.imul) 1 pc') (h : Wk l Z M md pc' L (.int (x * y) :: S) w cu su Q) : Wk l Z M md pc L (.int y :: .int x :: S) w cu su Q :=
  fun en p e s m args below meth c T locs r X K hz hF hR hL => by
  obtain ⟨hd, rfl⟩ := hd
  exact (h en p e s m args below meth c T locs r X K hz hF hR hL).pre (fun _ q => q) fun t k => XS.imul X.here K.1 rfl (hb K.by hd) rfl k
theorem Wk.iand {x y : Int32} (hd : InsA md pc (.iand) 1 pc') (h : Wk l Z M md pc' L (.int (x &&& y) :: S) w cu su Q) : Wk l Z M md pc L (.int y :: .int x :: S) w cu su Q :=
  fun en p e s m args below meth c T locs r X K hz hF hR hL => by
  obtain ⟨hd, rfl⟩ := hd
  exact (h en p e s m args below meth c T locs r X K hz hF hR hL).pre (fun _ q => q) fun t k => XS.iand X.here K.1 rfl (hb K.by hd) rfl k
theorem Wk.ior {x y : Int32} (hd : InsA md pc (.ior) 1 pc') (h : Wk l Z M md pc' L (.int (x ||| y) :: S) w cu su Q) : Wk l Z M md pc L (.int y :: .int x :: S) w cu su Q :=
  fun en p e s m args below meth c T locs r X K hz hF hR hL => by
  obtain ⟨hd, rfl⟩ := hd
  exact (h en p e s m args below meth c T locs r X K hz hF hR hL).pre (fun _ q => q) fun t k => XT.ior X.here K.1 rfl (hb K.by hd) rfl k
theorem Wk.ixor {x y : Int32} (hd : InsA md pc (.ixor) 1 pc') (h : Wk l Z M md pc' L (.int (x ^^^ y) :: S) w cu su Q) : Wk l Z M md pc L (.int y :: .int x :: S) w cu su Q :=
  fun en p e s m args below meth c T locs r X K hz hF hR hL => by
  obtain ⟨hd, rfl⟩ := hd
  exact (h en p e s m args below meth c T locs r X K hz hF hR hL).pre (fun _ q => q) fun t k => XT.ixor X.here K.1 rfl (hb K.by hd) rfl k
theorem Wk.ishl {x y : Int32} (hd : InsA md pc (.ishl) 1 pc') (h : Wk l Z M md pc' L (.int (x <<< (y &&& 31)) :: S) w cu su Q) : Wk l Z M md pc L (.int y :: .int x :: S) w cu su Q :=
  fun en p e s m args below meth c T locs r X K hz hF hR hL => by
  obtain ⟨hd, rfl⟩ := hd
  exact (h en p e s m args below meth c T locs r X K hz hF hR hL).pre (fun _ q => q) fun t k => XT.ishl X.here K.1 rfl (hb K.by hd) rfl k
theorem Wk.ishr {x y : Int32} (hd : InsA md pc (.ishr) 1 pc') (h : Wk l Z M md pc' L (.int (x >>> (y &&& 31)) :: S) w cu su Q) : Wk l Z M md pc L (.int y :: .int x :: S) w cu su Q :=
  fun en p e s m args below meth c T locs r X K hz hF hR hL => by
  obtain ⟨hd, rfl⟩ := hd
  exact (h en p e s m args below meth c T locs r X K hz hF hR hL).pre (fun _ q => q) fun t k => XT.ishr X.here K.1 rfl (hb K.by hd) rfl k
theorem Wk.iushr {x y : Int32} (hd : InsA md pc (.iushr) 1 pc') (h : Wk l Z M md pc' L (.int (XT.ushr x y) :: S) w cu su Q) : Wk l Z M md pc L (.int y :: .int x :: S) w cu su Q :=
  fun en p e s m args below meth c T locs r X K hz hF hR hL => by
  obtain ⟨hd, rfl⟩ := hd
  exact (h en p e s m args below meth c T locs r X K hz hF hR hL).pre (fun _ q => q) fun t k => XT.iushr X.here K.1 rfl (hb K.by hd) rfl k
theorem Wk.ineg {x : Int32} (hd : InsA md pc (.ineg) 1 pc') (h : Wk l Z M md pc' L (.int (-x) :: S) w cu su Q) : Wk l Z M md pc L (.int x :: S) w cu su Q :=
  fun en p e s m args below meth c T locs r X K hz hF hR hL => by
  obtain ⟨hd, rfl⟩ := hd
  exact (h en p e s m args below meth c T locs r X K hz hF hR hL).pre (fun _ q => q) fun t k => XS.ineg X.here K.1 rfl (hb K.by hd) rfl k
theorem Wk.idiv {x y : Int32} (hd : InsA md pc (.idiv) 1 pc') (hy : y ≠ 0) (h : Wk l Z M md pc' L (.int (x / y) :: S) w cu su Q) : Wk l Z M md pc L (.int y :: .int x :: S) w cu su Q :=
  fun en p e s m args below meth c T locs r X K hz hF hR hL => by
  obtain ⟨hd, rfl⟩ := hd
  exact (h en p e s m args below meth c T locs r X K hz hF hR hL).pre (fun _ q => q) fun t k => XS.idiv X.here K.1 rfl (hb K.by hd) rfl hy k
theorem Wk.irem {x y : Int32} (hd : InsA md pc (.irem) 1 pc') (hy : y ≠ 0) (h : Wk l Z M md pc' L (.int (x % y) :: S) w cu su Q) : Wk l Z M md pc L (.int y :: .int x :: S) w cu su Q :=
  fun en p e s m args below meth c T locs r X K hz hF hR hL => by
  obtain ⟨hd, rfl⟩ := hd
  exact (h en p e s m args below meth c T locs r X K hz hF hR hL).pre (fun _ q => q) fun t k => Jvm.RoadKit.iremM X K.1 rfl (hb K.by hd) rfl hy k
theorem Wk.ladd {x y : Int64} (hd : InsA md pc (.ladd) 1 pc') (h : Wk l Z M md pc' L (.long (x + y) :: S) w cu su Q) : Wk l Z M md pc L (.long y :: .long x :: S) w cu su Q :=
  fun en p e s m args below meth c T locs r X K hz hF hR hL => by
  obtain ⟨hd, rfl⟩ := hd
  exact (h en p e s m args below meth c T locs r X K hz hF hR hL).pre (fun _ q => q) fun t k => XT.ladd X.here K.1 rfl (hb K.by hd) rfl k
theorem Wk.lsub {x y : Int64} (hd : InsA md pc (.lsub) 1 pc') (h : Wk l Z M md pc' L (.long (x - y) :: S) w cu su Q) : Wk l Z M md pc L (.long y :: .long x :: S) w cu su Q :=
  fun en p e s m args below meth c T locs r X K hz hF hR hL => by
  obtain ⟨hd, rfl⟩ := hd
  exact (h en p e s m args below meth c T locs r X K hz hF hR hL).pre (fun _ q => q) fun t k => XT.lsub X.here K.1 rfl (hb K.by hd) rfl k
theorem Wk.lmul {x y : Int64} (hd : InsA md pc (.lmul) 1 pc') (h : Wk l Z M md pc' L (.long (x * y) :: S) w cu su Q) : Wk l Z M md pc L (.long y :: .long x :: S) w cu su Q :=
  fun en p e s m args below meth c T locs r X K hz hF hR hL => by
  obtain ⟨hd, rfl⟩ := hd
  exact (h en p e s m args below meth c T locs r X K hz hF hR hL).pre (fun _ q => q) fun t k => XT.lmul X.here K.1 rfl (hb K.by hd) rfl k
theorem Wk.land {x y : Int64} (hd : InsA md pc (.land) 1 pc') (h : Wk l Z M md pc' L (.long (x &&& y) :: S) w cu su Q) : Wk l Z M md pc L (.long y :: .long x :: S) w cu su Q :=
  fun en p e s m args below meth c T locs r X K hz hF hR hL => by
  obtain ⟨hd, rfl⟩ := hd
  exact (h en p e s m args below meth c T locs r X K hz hF hR hL).pre (fun _ q => q) fun t k => XT.land X.here K.1 rfl (hb K.by hd) rfl k
theorem Wk.lor {x y : Int64} (hd : InsA md pc (.lor) 1 pc') (h : Wk l Z M md pc' L (.long (x ||| y) :: S) w cu su Q) : Wk l Z M md pc L (.long y :: .long x :: S) w cu su Q :=
  fun en p e s m args below meth c T locs r X K hz hF hR hL => by
  obtain ⟨hd, rfl⟩ := hd
  exact (h en p e s m args below meth c T locs r X K hz hF hR hL).pre (fun _ q => q) fun t k => XT.lor X.here K.1 rfl (hb K.by hd) rfl k
theorem Wk.lxor {x y : Int64} (hd : InsA md pc (.lxor) 1 pc') (h : Wk l Z M md pc' L (.long (x ^^^ y) :: S) w cu su Q) : Wk l Z M md pc L (.long y :: .long x :: S) w cu su Q :=
  fun en p e s m args below meth c T locs r X K hz hF hR hL => by
  obtain ⟨hd, rfl⟩ := hd
  exact (h en p e s m args below meth c T locs r X K hz hF hR hL).pre (fun _ q => q) fun t k => XT.lxor X.here K.1 rfl (hb K.by hd) rfl k
theorem Wk.ldiv {x y : Int64} (hd : InsA md pc (.ldiv) 1 pc') (hy : y ≠ 0) (h : Wk l Z M md pc' L (.long (x / y) :: S) w cu su Q) : Wk l Z M md pc L (.long y :: .long x :: S) w cu su Q :=
  fun en p e s m args below meth c T locs r X K hz hF hR hL => by
  obtain ⟨hd, rfl⟩ := hd
  exact (h en p e s m args below meth c T locs r X K hz hF hR hL).pre (fun _ q => q) fun t k => XT.ldiv X.here K.1 rfl (hb K.by hd) rfl hy k
theorem Wk.lrem {x y : Int64} (hd : InsA md pc (.lrem) 1 pc') (hy : y ≠ 0) (h : Wk l Z M md pc' L (.long (x - (x / y) * y) :: S) w cu su Q) : Wk l Z M md pc L (.long y :: .long x :: S) w cu su Q :=
  fun en p e s m args below meth c T locs r X K hz hF hR hL => by
  obtain ⟨hd, rfl⟩ := hd
  exact (h en p e s m args below meth c T locs r X K hz hF hR hL).pre (fun _ q => q) fun t k => XT.lrem X.here K.1 rfl (hb K.by hd) rfl hy k
theorem Wk.lshl {x : Int64} {y : Int32} (hd : InsA md pc (.lshl) 1 pc') (h : Wk l Z M md pc' L (.long (x <<< (y.toInt64 &&& 63)) :: S) w cu su Q) : Wk l Z M md pc L (.int y :: .long x :: S) w cu su Q :=
  fun en p e s m args below meth c T locs r X K hz hF hR hL => by
  obtain ⟨hd, rfl⟩ := hd
  exact (h en p e s m args below meth c T locs r X K hz hF hR hL).pre (fun _ q => q) fun t k => XT.lshl X.here K.1 rfl (hb K.by hd) rfl k
theorem Wk.lshr {x : Int64} {y : Int32} (hd : InsA md pc (.lshr) 1 pc') (h : Wk l Z M md pc' L (.long (x >>> (y.toInt64 &&& 63)) :: S) w cu su Q) : Wk l Z M md pc L (.int y :: .long x :: S) w cu su Q :=
  fun en p e s m args below meth c T locs r X K hz hF hR hL => by
  obtain ⟨hd, rfl⟩ := hd
  exact (h en p e s m args below meth c T locs r X K hz hF hR hL).pre (fun _ q => q) fun t k => XT.lshr X.here K.1 rfl (hb K.by hd) rfl k
theorem Wk.lushr {x : Int64} {y : Int32} (hd : InsA md pc (.lushr) 1 pc') (h : Wk l Z M md pc' L (.long (XT.ushrL x y) :: S) w cu su Q) : Wk l Z M md pc L (.int y :: .long x :: S) w cu su Q :=
  fun en p e s m args below meth c T locs r X K hz hF hR hL => by
  obtain ⟨hd, rfl⟩ := hd
  exact (h en p e s m args below meth c T locs r X K hz hF hR hL).pre (fun _ q => q) fun t k => XT.lushr X.here K.1 rfl (hb K.by hd) rfl k
theorem Wk.i2l {x : Int32} (hd : InsA md pc (.i2l) 1 pc') (h : Wk l Z M md pc' L (.long x.toInt64 :: S) w cu su Q) : Wk l Z M md pc L (.int x :: S) w cu su Q :=
  fun en p e s m args below meth c T locs r X K hz hF hR hL => by
  obtain ⟨hd, rfl⟩ := hd
  exact (h en p e s m args below meth c T locs r X K hz hF hR hL).pre (fun _ q => q) fun t k => XT.i2l X.here K.1 rfl (hb K.by hd) rfl k
theorem Wk.l2i {x : Int64} (hd : InsA md pc (.l2i) 1 pc') (h : Wk l Z M md pc' L (.int x.toInt32 :: S) w cu su Q) : Wk l Z M md pc L (.long x :: S) w cu su Q :=
  fun en p e s m args below meth c T locs r X K hz hF hR hL => by
  obtain ⟨hd, rfl⟩ := hd
  exact (h en p e s m args below meth c T locs r X K hz hF hR hL).pre (fun _ q => q) fun t k => XT.l2i X.here K.1 rfl (hb K.by hd) rfl k
theorem Wk.lcmp {x y : Int64} (hd : InsA md pc (.lcmp) 1 pc') (h : Wk l Z M md pc' L (.int (XT.cmpL x y) :: S) w cu su Q) : Wk l Z M md pc L (.long y :: .long x :: S) w cu su Q :=
  fun en p e s m args below meth c T locs r X K hz hF hR hL => by
  obtain ⟨hd, rfl⟩ := hd
  exact (h en p e s m args below meth c T locs r X K hz hF hR hL).pre (fun _ q => q) fun t k => XT.lcmp X.here K.1 rfl (hb K.by hd) rfl k
theorem Wk.dup {v : Value} (hd : InsA md pc (.dup) 1 pc') (hv : v.category = 1) (h : Wk l Z M md pc' L (v :: v :: S) w cu su Q) : Wk l Z M md pc L (v :: S) w cu su Q :=
  fun en p e s m args below meth c T locs r X K hz hF hR hL => by
  obtain ⟨hd, rfl⟩ := hd
  exact (h en p e s m args below meth c T locs r X K hz hF hR hL).pre (fun _ q => q) fun t k => XS.dup X.here K.1 rfl (hb K.by hd) rfl (by rw [rv_cat]; exact hv) k
theorem Wk.pop {v : Value} (hd : InsA md pc (.pop) 1 pc') (hv : v.category = 1) (h : Wk l Z M md pc' L (S) w cu su Q) : Wk l Z M md pc L (v :: S) w cu su Q :=
  fun en p e s m args below meth c T locs r X K hz hF hR hL => by
  obtain ⟨hd, rfl⟩ := hd
  exact (h en p e s m args below meth c T locs r X K hz hF hR hL).pre (fun _ q => q) fun t k => XT.pop X.here K.1 rfl (hb K.by hd) rfl (by rw [rv_cat]; exact hv) k
theorem Wk.dup2 {v u : Value} (hd : InsA md pc (.dup2) 1 pc') (hv : v.category = 1) (hu : u.category = 1) (h : Wk l Z M md pc' L (v :: u :: v :: u :: S) w cu su Q) : Wk l Z M md pc L (v :: u :: S) w cu su Q :=
  fun en p e s m args below meth c T locs r X K hz hF hR hL => by
  obtain ⟨hd, rfl⟩ := hd
  exact (h en p e s m args below meth c T locs r X K hz hF hR hL).pre (fun _ q => q) fun t k => XT.dup2 X.here K.1 rfl (hb K.by hd) rfl (by rw [rv_cat]; exact hv) (by rw [rv_cat]; exact hu) k
theorem Wk.dupX1 {v u : Value} (hd : InsA md pc (.dup_x1) 1 pc') (hv : v.category = 1) (hu : u.category = 1) (h : Wk l Z M md pc' L (v :: u :: v :: S) w cu su Q) : Wk l Z M md pc L (v :: u :: S) w cu su Q :=
  fun en p e s m args below meth c T locs r X K hz hF hR hL => by
  obtain ⟨hd, rfl⟩ := hd
  exact (h en p e s m args below meth c T locs r X K hz hF hR hL).pre (fun _ q => q) fun t k => XT.dupX1 X.here K.1 rfl (hb K.by hd) rfl (by rw [rv_cat]; exact hv) (by rw [rv_cat]; exact hu) k
theorem Wk.istoreN {k : Fin 4} {x : Int32} (hd : InsA md pc (.istore_n k) 1 pc') (ho : C1 L[k.val]?) (hl : L.set k.val (.val (.int x)) = L') (h : Wk l Z M md pc' L' S w cu su Q) : Wk l Z M md pc L (.int x :: S) w cu su Q :=
  fun en p e s m args below meth c T locs r X K hz hF hR hL => by
  obtain ⟨hd, rfl⟩ := hd
  obtain ⟨r', e1, hL2⟩ := hL.st1 (v := .int x) ho rfl
  subst hl
  exact (h en p e s m args below meth c T locs r' X K hz hF hR hL2).pre (fun _ q => q) fun t k => XS.istoreN X.here K.1 rfl (hb K.by hd) rfl e1 k
theorem Wk.istore {k : Nat} {x : Int32} (hd : InsA md pc (.istore k) 2 pc') (ho : C1 L[k]?) (hl : L.set k (.val (.int x)) = L') (h : Wk l Z M md pc' L' S w cu su Q) : Wk l Z M md pc L (.int x :: S) w cu su Q :=
  fun en p e s m args below meth c T locs r X K hz hF hR hL => by
  obtain ⟨hd, rfl⟩ := hd
  obtain ⟨r', e1, hL2⟩ := hL.st1 (v := .int x) ho rfl
  subst hl
  exact (h en p e s m args below meth c T locs r' X K hz hF hR hL2).pre (fun _ q => q) fun t k => XS.istore X.here K.1 rfl (hb K.by hd) rfl e1 k
theorem Wk.astoreN {k : Fin 4} {x : Nat} (hd : InsA md pc (.astore_n k) 1 pc') (ho : C1 L[k.val]?) (hl : L.set k.val (.val (.ref x)) = L') (h : Wk l Z M md pc' L' S w cu su Q) : Wk l Z M md pc L (.ref x :: S) w cu su Q :=
  fun en p e s m args below meth c T locs r X K hz hF hR hL => by
  obtain ⟨hd, rfl⟩ := hd
  obtain ⟨r', e1, hL2⟩ := hL.st1 (v := .ref x) ho rfl
  subst hl
  exact (h en p e s m args below meth c T locs r' X K hz hF hR hL2).pre (fun _ q => q) fun t k => XS.astoreN X.here K.1 rfl (hb K.by hd) rfl rfl e1 k
theorem Wk.astore {k : Nat} {x : Nat} (hd : InsA md pc (.astore k) 2 pc') (ho : C1 L[k]?) (hl : L.set k (.val (.ref x)) = L') (h : Wk l Z M md pc' L' S w cu su Q) : Wk l Z M md pc L (.ref x :: S) w cu su Q :=
  fun en p e s m args below meth c T locs r X K hz hF hR hL => by
  obtain ⟨hd, rfl⟩ := hd
  obtain ⟨r', e1, hL2⟩ := hL.st1 (v := .ref x) ho rfl
  subst hl
  exact (h en p e s m args below meth c T locs r' X K hz hF hR hL2).pre (fun _ q => q) fun t k => XS.astore X.here K.1 rfl (hb K.by hd) rfl rfl e1 k
theorem Wk.lstoreN {k : Fin 4} {x : Int64} (hd : InsA md pc (.lstore_n k) 1 pc') (ho : C1 L[k.val]?) (ho2 : C1 L[k.val + 1]?) (hl : (L.set k.val (.val (.long x))).set (k.val + 1) .second = L') (h : Wk l Z M md pc' L' S w cu su Q) : Wk l Z M md pc L (.long x :: S) w cu su Q :=
  fun en p e s m args below meth c T locs r X K hz hF hR hL => by
  obtain ⟨hd, rfl⟩ := hd
  obtain ⟨r', e1, hL2⟩ := hL.st2 (v := .long x) ho ho2 rfl
  subst hl
  exact (h en p e s m args below meth c T locs r' X K hz hF hR hL2).pre (fun _ q => q) fun t k => XT.lstoreN X.here K.1 rfl (hb K.by hd) rfl e1 k
theorem Wk.lstore {k : Nat} {x : Int64} (hd : InsA md pc (.lstore k) 2 pc') (ho : C1 L[k]?) (ho2 : C1 L[k + 1]?) (hl : (L.set k (.val (.long x))).set (k + 1) .second = L') (h : Wk l Z M md pc' L' S w cu su Q) : Wk l Z M md pc L (.long x :: S) w cu su Q :=
  fun en p e s m args below meth c T locs r X K hz hF hR hL => by
  obtain ⟨hd, rfl⟩ := hd
  obtain ⟨r', e1, hL2⟩ := hL.st2 (v := .long x) ho ho2 rfl
  subst hl
  exact (h en p e s m args below meth c T locs r' X K hz hF hR hL2).pre (fun _ q => q) fun t k => XT.lstore X.here K.1 rfl (hb K.by hd) rfl e1 k
theorem Wk.iinc {k : Nat} {cst : Int} {x z : Int32} (hd : InsA md pc (.iinc k cst) 3 pc') (hv : L[k]? = some (.val (.int x))) (hz' : x + Int32.ofInt cst = z) (hl : L.set k (.val (.int z)) = L') (h : Wk l Z M md pc' L' S w cu su Q) : Wk l Z M md pc L S w cu su Q :=
  fun en p e s m args below meth c T locs r X K hz hF hR hL => by
  obtain ⟨hd, rfl⟩ := hd
  obtain ⟨r', e1, hL2⟩ := hL.st1 (i := k) (v := .int z) (Or.inr ⟨_, hv, rfl⟩) rfl
  subst hl hz'
  exact (h en p e s m args below meth c T locs r' X K hz hF hR hL2).pre (fun _ q => q) fun t k => XS.iinc X.here K.1 rfl (hb K.by hd) (hL.get hv) e1 k
theorem Wk.goto {o : Int} {pt : Nat} (hd : InsB md pc (.goto o) 3 pc' o pt) (h : Wk l Z M md pt L S w cu su Q) : Wk l Z M md pc L S w cu su Q :=
  fun en p e s m args below meth c T locs r X K hz hF hR hL => by
  obtain ⟨hd, rfl, h3, h4⟩ := hd
  exact (h en p e s m args below meth c T locs r X K hz hF hR hL).pre (fun _ q => q) fun t k => XS.goto X.here K.1 rfl rfl (hb K.by hd) h3 h4 k
theorem Wk.icmp_lt {x y : Int32} {o : Int} {pt : Nat} (hd : InsB md pc (.if_icmp .lt o) 3 pc' o pt) (h1 : x < y → Wk l Z M md pt L S w cu su Q) (h2 : ¬ x < y → Wk l Z M md pc' L S w cu su Q) : Wk l Z M md pc L (.int y :: .int x :: S) w cu su Q :=
  fun en p e s m args below meth c T locs r X K hz hF hR hL => by
  obtain ⟨hd, rfl, h3, h4⟩ := hd
  by_cases q : x < y
  · exact (h1 q en p e s m args below meth c T locs r X K hz hF hR hL).pre (fun _ q => q) fun t k => XS.icmpYes X.here K.1 rfl rfl (hb K.by hd) rfl (tlt q).1 h3 h4 k
  · exact (h2 q en p e s m args below meth c T locs r X K hz hF hR hL).pre (fun _ q => q) fun t k => XS.icmpNo X.here K.1 rfl (hb K.by hd) rfl (flt q).1 k
theorem Wk.if_lt {x : Int32} {o : Int} {pt : Nat} (hd : InsB md pc (.ifCond .lt o) 3 pc' o pt) (h1 : x < 0 → Wk l Z M md pt L S w cu su Q) (h2 : ¬ x < 0 → Wk l Z M md pc' L S w cu su Q) : Wk l Z M md pc L (.int x :: S) w cu su Q :=
  fun en p e s m args below meth c T locs r X K hz hF hR hL => by
  obtain ⟨hd, rfl, h3, h4⟩ := hd
  by_cases q : x < 0
  · exact (h1 q en p e s m args below meth c T locs r X K hz hF hR hL).pre (fun _ q => q) fun t k => XS.ifYes X.here K.1 rfl rfl (hb K.by hd) rfl ((if0 _ _).trans (tlt q).1) h3 h4 k
  · exact (h2 q en p e s m args below meth c T locs r X K hz hF hR hL).pre (fun _ q => q) fun t k => XS.ifNo X.here K.1 rfl (hb K.by hd) rfl ((if0 _ _).trans (flt q).1) k
theorem Wk.icmp_ge {x y : Int32} {o : Int} {pt : Nat} (hd : InsB md pc (.if_icmp .ge o) 3 pc' o pt) (h1 : ¬ x < y → Wk l Z M md pt L S w cu su Q) (h2 : x < y → Wk l Z M md pc' L S w cu su Q) : Wk l Z M md pc L (.int y :: .int x :: S) w cu su Q :=
  fun en p e s m args below meth c T locs r X K hz hF hR hL => by
  obtain ⟨hd, rfl, h3, h4⟩ := hd
  by_cases q : x < y
  · exact (h2 q en p e s m args below meth c T locs r X K hz hF hR hL).pre (fun _ q => q) fun t k => XS.icmpNo X.here K.1 rfl (hb K.by hd) rfl (tlt q).2.1 k
  · exact (h1 q en p e s m args below meth c T locs r X K hz hF hR hL).pre (fun _ q => q) fun t k => XS.icmpYes X.here K.1 rfl rfl (hb K.by hd) rfl (flt q).2.1 h3 h4 k
theorem Wk.if_ge {x : Int32} {o : Int} {pt : Nat} (hd : InsB md pc (.ifCond .ge o) 3 pc' o pt) (h1 : ¬ x < 0 → Wk l Z M md pt L S w cu su Q) (h2 : x < 0 → Wk l Z M md pc' L S w cu su Q) : Wk l Z M md pc L (.int x :: S) w cu su Q :=
  fun en p e s m args below meth c T locs r X K hz hF hR hL => by
  obtain ⟨hd, rfl, h3, h4⟩ := hd
  by_cases q : x < 0
  · exact (h2 q en p e s m args below meth c T locs r X K hz hF hR hL).pre (fun _ q => q) fun t k => XS.ifNo X.here K.1 rfl (hb K.by hd) rfl ((if0 _ _).trans (tlt q).2.1) k
  · exact (h1 q en p e s m args below meth c T locs r X K hz hF hR hL).pre (fun _ q => q) fun t k => XS.ifYes X.here K.1 rfl rfl (hb K.by hd) rfl ((if0 _ _).trans (flt q).2.1) h3 h4 k
theorem Wk.icmp_gt {x y : Int32} {o : Int} {pt : Nat} (hd : InsB md pc (.if_icmp .gt o) 3 pc' o pt) (h1 : y < x → Wk l Z M md pt L S w cu su Q) (h2 : ¬ y < x → Wk l Z M md pc' L S w cu su Q) : Wk l Z M md pc L (.int y :: .int x :: S) w cu su Q :=
  fun en p e s m args below meth c T locs r X K hz hF hR hL => by
  obtain ⟨hd, rfl, h3, h4⟩ := hd
  by_cases q : y < x
  · exact (h1 q en p e s m args below meth c T locs r X K hz hF hR hL).pre (fun _ q => q) fun t k => XS.icmpYes X.here K.1 rfl rfl (hb K.by hd) rfl (tlt q).2.2.1 h3 h4 k
  · exact (h2 q en p e s m args below meth c T locs r X K hz hF hR hL).pre (fun _ q => q) fun t k => XS.icmpNo X.here K.1 rfl (hb K.by hd) rfl (flt q).2.2.1 k
theorem Wk.if_gt {x : Int32} {o : Int} {pt : Nat} (hd : InsB md pc (.ifCond .gt o) 3 pc' o pt) (h1 : 0 < x → Wk l Z M md pt L S w cu su Q) (h2 : ¬ 0 < x → Wk l Z M md pc' L S w cu su Q) : Wk l Z M md pc L (.int x :: S) w cu su Q :=
  fun en p e s m args below meth c T locs r X K hz hF hR hL => by
  obtain ⟨hd, rfl, h3, h4⟩ := hd
  by_cases q : 0 < x
  · exact (h1 q en p e s m args below meth c T locs r X K hz hF hR hL).pre (fun _ q => q) fun t k => XS.ifYes X.here K.1 rfl rfl (hb K.by hd) rfl ((if0 _ _).trans (tlt q).2.2.1) h3 h4 k
  · exact (h2 q en p e s m args below meth c T locs r X K hz hF hR hL).pre (fun _ q => q) fun t k => XS.ifNo X.here K.1 rfl (hb K.by hd) rfl ((if0 _ _).trans (flt q).2.2.1) k
theorem Wk.icmp_le {x y : Int32} {o : Int} {pt : Nat} (hd : InsB md pc (.if_icmp .le o) 3 pc' o pt) (h1 : ¬ y < x → Wk l Z M md pt L S w cu su Q) (h2 : y < x → Wk l Z M md pc' L S w cu su Q) : Wk l Z M md pc L (.int y :: .int x :: S) w cu su Q :=
  fun en p e s m args below meth c T locs r X K hz hF hR hL => by
  obtain ⟨hd, rfl, h3, h4⟩ := hd
  by_cases q : y < x
  · exact (h2 q en p e s m args below meth c T locs r X K hz hF hR hL).pre (fun _ q => q) fun t k => XS.icmpNo X.here K.1 rfl (hb K.by hd) rfl (tlt q).2.2.2 k
  · exact (h1 q en p e s m args below meth c T locs r X K hz hF hR hL).pre (fun _ q => q) fun t k => XS.icmpYes X.here K.1 rfl rfl (hb K.by hd) rfl (flt q).2.2.2 h3 h4 k
theorem Wk.if_le {x : Int32} {o : Int} {pt : Nat} (hd : InsB md pc (.ifCond .le o) 3 pc' o pt) (h1 : ¬ 0 < x → Wk l Z M md pt L S w cu su Q) (h2 : 0 < x → Wk l Z M md pc' L S w cu su Q) : Wk l Z M md pc L (.int x :: S) w cu su Q :=
  fun en p e s m args below meth c T locs r X K hz hF hR hL => by
  obtain ⟨hd, rfl, h3, h4⟩ := hd
  by_cases q : 0 < x
  · exact (h2 q en p e s m args below meth c T locs r X K hz hF hR hL).pre (fun _ q => q) fun t k => XS.ifNo X.here K.1 rfl (hb K.by hd) rfl ((if0 _ _).trans (tlt q).2.2.2) k
  · exact (h1 q en p e s m args below meth c T locs r X K hz hF hR hL).pre (fun _ q => q) fun t k => XS.ifYes X.here K.1 rfl rfl (hb K.by hd) rfl ((if0 _ _).trans (flt q).2.2.2) h3 h4 k
theorem Wk.icmp_eq {x y : Int32} {o : Int} {pt : Nat} (hd : InsB md pc (.if_icmp .eq o) 3 pc' o pt) (h1 : x = y → Wk l Z M md pt L S w cu su Q) (h2 : ¬ x = y → Wk l Z M md pc' L S w cu su Q) : Wk l Z M md pc L (.int y :: .int x :: S) w cu su Q :=
  fun en p e s m args below meth c T locs r X K hz hF hR hL => by
  obtain ⟨hd, rfl, h3, h4⟩ := hd
  by_cases q : x = y
  · exact (h1 q en p e s m args below meth c T locs r X K hz hF hR hL).pre (fun _ q => q) fun t k => XS.icmpYes X.here K.1 rfl rfl (hb K.by hd) rfl (teq q).1 h3 h4 k
  · exact (h2 q en p e s m args below meth c T locs r X K hz hF hR hL).pre (fun _ q => q) fun t k => XS.icmpNo X.here K.1 rfl (hb K.by hd) rfl (feq q).1 k
theorem Wk.if_eq {x : Int32} {o : Int} {pt : Nat} (hd : InsB md pc (.ifCond .eq o) 3 pc' o pt) (h1 : x = 0 → Wk l Z M md pt L S w cu su Q) (h2 : ¬ x = 0 → Wk l Z M md pc' L S w cu su Q) : Wk l Z M md pc L (.int x :: S) w cu su Q :=
  fun en p e s m args below meth c T locs r X K hz hF hR hL => by
  obtain ⟨hd, rfl, h3, h4⟩ := hd
  by_cases q : x = 0
  · exact (h1 q en p e s m args below meth c T locs r X K hz hF hR hL).pre (fun _ q => q) fun t k => XS.ifYes X.here K.1 rfl rfl (hb K.by hd) rfl ((if0 _ _).trans (teq q).1) h3 h4 k
  · exact (h2 q en p e s m args below meth c T locs r X K hz hF hR hL).pre (fun _ q => q) fun t k => XS.ifNo X.here K.1 rfl (hb K.by hd) rfl ((if0 _ _).trans (feq q).1) k
theorem Wk.icmp_ne {x y : Int32} {o : Int} {pt : Nat} (hd : InsB md pc (.if_icmp .ne o) 3 pc' o pt) (h1 : ¬ x = y → Wk l Z M md pt L S w cu su Q) (h2 : x = y → Wk l Z M md pc' L S w cu su Q) : Wk l Z M md pc L (.int y :: .int x :: S) w cu su Q :=
  fun en p e s m args below meth c T locs r X K hz hF hR hL => by
  obtain ⟨hd, rfl, h3, h4⟩ := hd
  by_cases q : x = y
  · exact (h2 q en p e s m args below meth c T locs r X K hz hF hR hL).pre (fun _ q => q) fun t k => XS.icmpNo X.here K.1 rfl (hb K.by hd) rfl (teq q).2 k
  · exact (h1 q en p e s m args below meth c T locs r X K hz hF hR hL).pre (fun _ q => q) fun t k => XS.icmpYes X.here K.1 rfl rfl (hb K.by hd) rfl (feq q).2 h3 h4 k
theorem Wk.if_ne {x : Int32} {o : Int} {pt : Nat} (hd : InsB md pc (.ifCond .ne o) 3 pc' o pt) (h1 : ¬ x = 0 → Wk l Z M md pt L S w cu su Q) (h2 : x = 0 → Wk l Z M md pc' L S w cu su Q) : Wk l Z M md pc L (.int x :: S) w cu su Q :=
  fun en p e s m args below meth c T locs r X K hz hF hR hL => by
  obtain ⟨hd, rfl, h3, h4⟩ := hd
  by_cases q : x = 0
  · exact (h2 q en p e s m args below meth c T locs r X K hz hF hR hL).pre (fun _ q => q) fun t k => XS.ifNo X.here K.1 rfl (hb K.by hd) rfl ((if0 _ _).trans (teq q).2) k
  · exact (h1 q en p e s m args below meth c T locs r X K hz hF hR hL).pre (fun _ q => q) fun t k => XS.ifYes X.here K.1 rfl rfl (hb K.by hd) rfl ((if0 _ _).trans (feq q).2) h3 h4 k
theorem Wk.tswIn {dflt low high o : Int} {offs : Array Int} {len pt : Nat} {x z : Int32} (hd : InsB md pc (.tableswitch dflt low high offs) len pc' o pt) (hx : x = z) (hin : ¬ (z.toInt < low ∨ z.toInt > high)) (hoff : offs[(z.toInt - low).toNat]? = some o) (h : Wk l Z M md pt L S w cu su Q) : Wk l Z M md pc L (.int x :: S) w cu su Q :=
  fun en p e s m args below meth c T locs r X K hz hF hR hL => by
  obtain ⟨hd, rfl, h3, h4⟩ := hd
  subst hx
  exact (h en p e s m args below meth c T locs r X K hz hF hR hL).pre (fun _ q => q) fun t k => XS.tswIn X.here K.1 rfl rfl (hb K.by hd) rfl hin hoff h3 h4 k
theorem Wk.tswOut {dflt low high : Int} {offs : Array Int} {len pt : Nat} {x : Int32} (hd : InsB md pc (.tableswitch dflt low high offs) len pc' dflt pt) (hout : x.toInt < low ∨ x.toInt > high) (h : Wk l Z M md pt L S w cu su Q) : Wk l Z M md pc L (.int x :: S) w cu su Q :=
  fun en p e s m args below meth c T locs r X K hz hF hR hL => by
  obtain ⟨hd, rfl, h3, h4⟩ := hd
  exact (h en p e s m args below meth c T locs r X K hz hF hR hL).pre (fun _ q => q) fun t k => XS.tswOut X.here K.1 rfl rfl (hb K.by hd) rfl hout h3 h4 k
theorem Wk.ldc {idx : Nat} {z : Int32} {a0 : Array Value} (hd : InsA md pc (.ldc idx) 2 pc') (wd : (Cond.constant M.own idx z).before a0 Z = true) (h : Wk l Z M md pc' L (.int z :: S) w cu su Q) : Wk l Z M md pc L S w cu su Q :=
  fun en p e s m args below meth c T locs r X K hz hF hR hL => by
  obtain ⟨hd, rfl⟩ := hd
  have hc : (Cond.constant M.own idx z).before args s = true := mvT K.2.1 wd
  exact (h en p e s m args below meth c T locs r X K hz hF hR hL).pre (fun _ q => q) fun t k => X.ldcInt K.1 K.2.2.1 hc (g := mkF m pc r (S.map (rv (M.rho en)))) rfl (hb K.by hd) t k
theorem Wk.ldcw {idx : Nat} {z : Int32} {a0 : Array Value} (hd : InsA md pc (.ldc_w idx) 3 pc') (wd : (Cond.constant M.own idx z).before a0 Z = true) (h : Wk l Z M md pc' L (.int z :: S) w cu su Q) : Wk l Z M md pc L S w cu su Q :=
  fun en p e s m args below meth c T locs r X K hz hF hR hL => by
  obtain ⟨hd, rfl⟩ := hd
  have hc : (Cond.constant M.own idx z).before args s = true := mvT K.2.1 wd
  exact (h en p e s m args below meth c T locs r X K hz hF hR hL).pre (fun _ q => q) fun t k => X.ldcwInt K.1 K.2.2.1 hc (g := mkF m pc r (S.map (rv (M.rho en)))) rfl (hb K.by hd) t k
theorem Wk.ldc2 {idx : Nat} {z : Int64} {a0 : Array Value} (hd : InsA md pc (.ldc2_w idx) 3 pc') (wd : (Cond.constantLong M.own idx z).before a0 Z = true) (h : Wk l Z M md pc' L (.long z :: S) w cu su Q) : Wk l Z M md pc L S w cu su Q :=
  fun en p e s m args below meth c T locs r X K hz hF hR hL => by
  obtain ⟨hd, rfl⟩ := hd
  have hc : (Cond.constantLong M.own idx z).before args s = true := mvT K.2.1 wd
  exact (h en p e s m args below meth c T locs r X K hz hF hR hL).pre (fun _ q => q) fun t k => X.ldc2Long K.1 K.2.2.1 hc (g := mkF m pc r (S.map (rv (M.rho en)))) rfl (hb K.by hd) t k
/-! returns -/
theorem Wk.ireturn {x : Int32} (hM : ∀ en h, M.frm en h h) (hret : rtOf md = some .int) (hd : InsA md pc .ireturn 1 pc') (hc : cu = exOf md) (hc2 : exOf md ≤ (rmOf md).cells) (hs : su ≤ (rmOf md).slots) (hq : Q (some (.int x)) w) : Wk l Z M md pc L (.int x :: S) w cu su Q :=
  fun en p e s m args below meth c T locs r X K hz hF hR hL => by
  subst hc
  have hr := K.2.2.2.2.1.trans hret
  exact ⟨T, locs, su, _, w, X, hc2, hs, hz, hF, hR, hM _ _, fun q => (by rw [hr] at q; cases q), fun ρ y e => (by cases e; rfl), hq, fun fs hf => retI X K.1 hr (hb K.by hd.1) hf⟩
theorem Wk.zreturn {x y : Int32} (hM : ∀ en h, M.frm en h h) (hret : rtOf md = some .boolean) (hd : InsA md pc .ireturn 1 pc') (hc : cu = exOf md) (hc2 : exOf md ≤ (rmOf md).cells) (hs : su ≤ (rmOf md).slots) (hy : nar .boolean x = y) (hq : Q (some (.int y)) w) : Wk l Z M md pc L (.int x :: S) w cu su Q :=
  fun en p e s m args below meth c T locs r X K hz hF hR hL => by
  subst hc hy
  have hr := K.2.2.2.2.1.trans hret
  exact ⟨T, locs, su, _, w, X, hc2, hs, hz, hF, hR, hM _ _, fun q => (by rw [hr] at q; cases q), fun ρ y e => (by cases e; rfl), hq, fun fs hf => retN X K.1 (t := .boolean) hr (by simp) (hb K.by hd.1) hf⟩
theorem Wk.lreturn {x : Int64} (hM : ∀ en h, M.frm en h h) (hret : rtOf md = some .long) (hd : InsA md pc .lreturn 1 pc') (hc : cu = exOf md) (hc2 : exOf md ≤ (rmOf md).cells) (hs : su ≤ (rmOf md).slots) (hq : Q (some (.long x)) w) : Wk l Z M md pc L [.long x] w cu su Q :=
  fun en p e s m args below meth c T locs r X K hz hF hR hL => by
  subst hc
  have hr := K.2.2.2.2.1.trans hret
  exact ⟨T, locs, su, _, w, X, hc2, hs, hz, hF, hR, hM _ _, fun q => (by rw [hr] at q; cases q), fun ρ y e => (by cases e; rfl), hq, fun fs hf => X.lreturnOut K.1 hr (hb K.by hd.1) hf⟩
theorem Wk.ret (hM : ∀ en h, M.frm en h h) (hret : rtOf md = none) (hd : InsA md pc .return_ 1 pc') (hc : cu = exOf md) (hc2 : exOf md ≤ (rmOf md).cells) (hs : su ≤ (rmOf md).slots) (hq : Q none w) : Wk l Z M md pc L [] w cu su Q :=
  fun en p e s m args below meth c T locs r X K hz hF hR hL => by
  subst hc
  have hr := K.2.2.2.2.1.trans hret
  exact ⟨T, locs, su, none, w, X, hc2, hs, hz, hF, hR, hM _ _, fun _ => rfl, fun ρ y e => (by cases e), hq, fun fs hf => X.returnOut K.1 hr (hb K.by hd.1) hf⟩
/-! a walk from the entry is a contract -/
theorem Wk.met (h : Wk l Z M md 0 L [] w 0 0 Q) (hp : plainName (nmOf md).cls = true) (ho : M.own = (nmOf md).cls) {en : E} {h0 : Heap} (hR : M.rel en w h0) (as : List Value) (hL : (argsToLocals as.toArray (mxOf md)).toList = L) (hw : wfL L = true) (ws : List Jvm.Cond) :
    MetFree l (nmOf md) (head1 (Jvm.Cond.code (nmOf md) (byOf md) (mxOf md) (rtOf md) :: ws) (rmOf md)) (fun a U => a = (as.map (rv (M.rho en))).toArray ∧ Z.Warmed39 U.vm ∧ U.heap = h0) (fun _ _ _ _ _ => True)
      (fun _ U o U' => ∃ v Lc, o = .returned v ∧ (∃ w', Q v w' ∧ M.rel en w' U'.heap ∧ M.frm en h0 U'.heap ∧ Fr (M.lo en) Lc ∧ U'.heap.size = h0.size + exOf md ∧ ∀ ρ x, v = some x → rv ρ x = x) ∧ FrameEnd U o U' Lc (rmOf md).cells (rmOf md).slots) := by
  refine MetFree.of_bodySF (plainFor_of_name hp) hisR ?_
  intro p e s m args below meth c s₁ Bd hml0 hP hK
  obtain ⟨rfl, hZ, hh⟩ := hP
  have hown : s.vm.findClass (nmOf md).cls = some m.cls := findClass_of_methodNamed Bd.named
  have hnm := (name_of_methodNamed Bd.named Bd.method).1
  have X0 : Stand p l e (rmOf md) s m (as.map (rv (M.rho en))).toArray below meth c s₁ [] 0 0 := Stand.of_body Bd
  have e0 : s₁.heap = s.heap := by rw [Bd.state]; rfl
  subst hh
  obtain ⟨T', locs', su', v, w', a1, a2, a3, a4, a5, a6, a7, a8, a9, a10, a11⟩ := h en p e s m _ below meth c s₁ [] _ X0 ⟨Bd.exec, hZ, by rw [ho]; exact hown, hnm, Bd.returns, BodyLoose.notSynchronized Bd, Bd.bytes, hml0⟩ (by rw [e0]; rfl) (Fr.nil _) (by rw [e0]; exact hR) (SR.entry (M.rho en) as (mxOf md) hL hw)
  obtain ⟨fs, hr, hrun, hended, hW, hsame⟩ := a1.leave (v := v) a8 (BodyLoose.notSynchronized Bd)
  rw [e0] at a7
  exact ⟨_, _, a11 fs hr, hrun, hended, v, locs', rfl, ⟨w', a10, a6, a7, a5, a4, a9⟩, ⟨_, rfl⟩, hW, hsame.mono a2 a3⟩
end Steps
end Jvm.Own

namespace Jvm.Own
open Jvm Jvm.ClassFile Sem Op Lib Jvm.Free Jvm.Stand Jvm.LawKit Jvm.RoadKit
/-! ## 3. One object of the project's class, with its arrays behind it -/
/-- how many arrays are made; the ints; the longs; the arrays of ints (and booleans); of longs -/
abbrev WO : Type := Nat × (Nat → Int32) × (Nat → Int64) × (Nat → Int32 → Int32) × (Nat → Int32 → Int64)
/-- the class; its fields of ints and booleans (number, name, descriptor); of longs; of arrays, in the order in which they are made -/
abbrev CD : Type := String × List (Nat × String × String) × List (Nat × String) × List (Nat × String × String × FieldType × Int32)
def ups {κ α : Type} [DecidableEq κ] (f : κ → α) (i : κ) (x : α) : κ → α := fun k => if k = i then x else f k
theorem ups_at {κ α : Type} [DecidableEq κ] (f : κ → α) (i : κ) (x : α) : ups f i x i = x := by simp [ups]
theorem ups_ne {κ α : Type} [DecidableEq κ] (f : κ → α) {i k : κ} (x : α) (h : k ≠ i) : ups f i x k = f k := by simp [ups, h]
def el : FieldType → Int32 → Int64 → Value
  | .long, _, j => .long j
  | _, i, _ => .int i
theorem el_int {ty : FieldType} (h : ty ≠ .long) (i : Int32) (j : Int64) : el ty i j = .int i := by cases ty <;> first | rfl | exact absurd rfl h
def AtA (Z : State) (h : Heap) (b : Addr) (ty : FieldType) (n : Int32) (f : Int32 → Int32) (g : Int32 → Int64) : Prop :=
  ∃ cl, Arr Z h b cl ty ∧ cl.slots.size = n.toNatClampNeg ∧ ∀ x : Int32, ¬ x < 0 → x < n → cl.slots[x.toNatClampNeg]? = some (el ty (f x) (g x))
def relC (Z : State) (cd : CD) (en : Nat × Nat) (w : WO) (h : Heap) : Prop :=
  en.2 ≤ en.1 ∧ Exa Z h en.1 cd.1 ∧ (∀ t ∈ cd.2.1, Fld Z h en.1 cd.1 t.2.1 t.2.2 (.int (w.2.1 t.1))) ∧ (∀ t ∈ cd.2.2.1, Fld Z h en.1 cd.1 t.2 "J" (.long (w.2.2.1 t.1))) ∧
  (∀ t ∈ cd.2.2.2, (t.1 < w.1 → Fld Z h en.1 cd.1 t.2.1 t.2.2.1 (.ref (en.1 + (t.1 + 1))) ∧ AtA Z h (en.1 + (t.1 + 1)) t.2.2.2.1 t.2.2.2.2 (w.2.2.2.1 t.1) (w.2.2.2.2 t.1)) ∧ (¬ t.1 < w.1 → Fld Z h en.1 cd.1 t.2.1 t.2.2.1 .null)) ∧
  (w.1 < cd.2.2.2.length → h.size = en.1 + 1 + w.1)
def frmC (cd : CD) (en : Nat × Nat) (h h' : Heap) : Prop := h.size ≤ h'.size ∧ ∀ (x : Nat) (c : Cell), h[x]? = some c → (x < en.1 ∨ en.1 + cd.2.2.2.length < x) → h'[x]? = some c
abbrev MoC (Z : State) (cd : CD) : Mode WO (Nat × Nat) := (cd.1, fun en k => en.1 + k, fun en => en.2, relC Z cd, frmC cd)
theorem nn {a b : Nat} (h : a ≠ b) : @Ne Addr a b := h
theorem frmC.refl (cd : CD) (en : Nat × Nat) (h : Heap) : frmC cd en h h := ⟨Nat.le_refl _, fun _ _ q _ => q⟩
theorem frmC.trans {cd : CD} {en : Nat × Nat} {h1 h2 h3 : Heap} (a : frmC cd en h1 h2) (b : frmC cd en h2 h3) : frmC cd en h1 h3 := ⟨Nat.le_trans a.1 b.1, fun x c q r => b.2 x c (a.2 x c q r) r⟩
theorem frmC.wr {cd : CD} {en : Nat × Nat} {h h' : Heap} {b : Nat} {sl : Nat} {v : Value} (W : Wr h h' b sl v) (h1 : en.1 ≤ b) (h2 : b ≤ en.1 + cd.2.2.2.length) : frmC cd en h h' := by
  refine ⟨Nat.le_of_eq W.size.symm, fun x c q r => ?_⟩
  obtain ⟨c', e1, -, -, -, e5, -⟩ := wr_at W q
  rw [← e5 (nn (by omega))]; exact e1
theorem frmC.ext {cd : CD} {en : Nat × Nat} {h h' : Heap} (E : Ext h h') : frmC cd en h h' := ⟨E.1, fun x c q _ => E.2 x c q⟩
def okC (cd : CD) : Prop :=
  (∀ t ∈ cd.2.1, ∀ t' ∈ cd.2.1, (t.1 = t'.1 → t = t') ∧ (t.1 ≠ t'.1 → t.2.1 ≠ t'.2.1)) ∧ (∀ t ∈ cd.2.2.1, ∀ t' ∈ cd.2.2.1, (t.1 = t'.1 → t = t') ∧ (t.1 ≠ t'.1 → t.2 ≠ t'.2)) ∧ (∀ t ∈ cd.2.2.2, ∀ t' ∈ cd.2.2.2, (t.1 = t'.1 → t = t') ∧ (t.1 ≠ t'.1 → t.2.1 ≠ t'.2.1)) ∧
  (∀ t ∈ cd.2.1, ∀ t' ∈ cd.2.2.1, t.2.1 ≠ t'.2) ∧ (∀ t ∈ cd.2.1, ∀ t' ∈ cd.2.2.2, t.2.1 ≠ t'.2.1) ∧ (∀ t ∈ cd.2.2.1, ∀ t' ∈ cd.2.2.2, t.2 ≠ t'.2.1) ∧
  (∀ t ∈ cd.2.1, parseFieldDescriptor t.2.2 = some .int ∨ parseFieldDescriptor t.2.2 = some .boolean) ∧
  (∀ t ∈ cd.2.2.2, parseFieldDescriptor t.2.2.1 = some (.array t.2.2.2.1) ∧ t.1 < cd.2.2.2.length ∧ (t.2.2.2.1 = .int ∨ t.2.2.2.1 = .boolean ∨ t.2.2.2.1 = .long) ∧ ¬ t.2.2.2.2 < 0)
/-- what the words say of the class -/
def CO (Z : State) (a0 : Array Value) (cd : CD) : Prop :=
  (∃ kk, (Cond.instantiable cd.1 kk).before a0 Z = true) ∧ (∀ t ∈ cd.2.1, Laid Z a0 cd.1 cd.1 t.2.1 t.2.2) ∧ (∀ t ∈ cd.2.2.1, Laid Z a0 cd.1 cd.1 t.2 "J") ∧ (∀ t ∈ cd.2.2.2, Laid Z a0 cd.1 cd.1 t.2.1 t.2.2.1) ∧ okC cd
theorem pJ : parseFieldDescriptor "J" = some .long := by decide +kernel
theorem snJ {Z : State} {a0 : Array Value} {C n n' d' : String} {t' : FieldType} (L : Laid Z a0 C C n "J") (L' : Laid Z a0 C C n' d') (hn : n ≠ n') (ht' : parseFieldDescriptor d' = some t') : Jvm.RoadKit.slotOf Z C n "J" ≠ Jvm.RoadKit.slotOf Z C n' d' := by
  have p := pJ
  generalize "J" = q at *
  exact slot_ne L L' hn p ht'
section Rel
variable {Z : State} {a0 : Array Value} {cd : CD} {en : Nat × Nat} {h h' : Heap} {k : Nat} {F : Nat → Int32} {G : Nat → Int64} {A : Nat → Int32 → Int32} {B : Nat → Int32 → Int64}
theorem pI (ok : CO Z a0 cd) {t : Nat × String × String} (ht : t ∈ cd.2.1) : ∃ ty, parseFieldDescriptor t.2.2 = some ty := by
  rcases ok.2.2.2.2.2.2.2.2.2.2.1 t ht with q | q <;> exact ⟨_, q⟩
theorem AtA.other {b b' : Addr} {ty : FieldType} {n : Int32} {f : Int32 → Int32} {g : Int32 → Int64} {sl : Nat} {v : Value} (W : Wr h h' b sl v) (H : AtA Z h b' ty n f g) (hne : b' ≠ b) : AtA Z h' b' ty n f g := by
  obtain ⟨cl, h1, h2, h3⟩ := H
  exact ⟨cl, h1.other W hne, h2, h3⟩
theorem AtA.ext {b' : Addr} {ty : FieldType} {n : Int32} {f : Int32 → Int32} {g : Int32 → Int64} (E : Ext h h') (H : AtA Z h b' ty n f g) : AtA Z h' b' ty n f g := by
  obtain ⟨cl, h1, h2, h3⟩ := H
  exact ⟨cl, h1.ext E, h2, h3⟩
theorem clamp_lt {x n : Int32} (h0 : ¬ x < 0) (h1 : x < n) : x.toNatClampNeg < n.toNatClampNeg := by
  simp only [Int32.lt_iff_toInt_lt, Int32.reduceToInt, Int32.toNatClampNeg] at *
  omega
theorem in_of {x n : Int32} {cl : Cell} (h2 : cl.slots.size = n.toNatClampNeg) (h0 : ¬ x < 0) (h1 : x < n) : ¬ (x < 0 ∨ cl.slots.size ≤ x.toNatClampNeg) := by
  have := clamp_lt h0 h1
  rintro (q | q)
  · exact h0 q
  · omega
theorem AtA.stI {b : Addr} {ty : FieldType} {n : Int32} {f : Int32 → Int32} {g : Int32 → Int64} {j x : Int32} (hty : ty ≠ .long) (h0 : ¬ j < 0) (h1 : j < n) (W : Wr h h' b j.toNatClampNeg (.int x)) (H : AtA Z h b ty n f g) : AtA Z h' b ty n (ups f j x) g := by
  obtain ⟨cl, g1, g2, g3⟩ := H
  refine ⟨_, g1.same W, by rw [sz_set]; exact g2, fun y y0 y1 => ?_⟩
  by_cases e : y = j
  · rw [get_hit (in_of g2 h0 h1) e, e, ups_at, el_int hty]
  · rw [get_miss h0 y0 e, ups_ne _ _ e]; exact g3 y y0 y1
theorem AtA.stJ {b : Addr} {n : Int32} {f : Int32 → Int32} {g : Int32 → Int64} {j : Int32} {x : Int64} (h0 : ¬ j < 0) (h1 : j < n) (W : Wr h h' b j.toNatClampNeg (.long x)) (H : AtA Z h b .long n f g) : AtA Z h' b .long n f (ups g j x) := by
  obtain ⟨cl, g1, g2, g3⟩ := H
  refine ⟨_, g1.same W, by rw [sz_set]; exact g2, fun y y0 y1 => ?_⟩
  by_cases e : y = j
  · rw [get_hit (in_of g2 h0 h1) e, e, ups_at]; rfl
  · rw [get_miss h0 y0 e, ups_ne _ _ e]; exact g3 y y0 y1
theorem relC.putI (ok : CO Z a0 cd) {i : Nat} {n d : String} {x : Int32} (hR : relC Z cd en (k, F, G, A, B) h) (ht : (i, n, d) ∈ cd.2.1) (W : Wr h h' en.1 (Jvm.RoadKit.slotOf Z cd.1 n d) (.int x)) : relC Z cd en (k, ups F i x, G, A, B) h' := by
  obtain ⟨r1, r2, r3, r4, r5, r6⟩ := hR
  obtain ⟨-, o2, o3, o4, q1, q2, q3, q4, q5, q6, q7, q8⟩ := ok
  obtain ⟨ty0, p0⟩ : ∃ ty, parseFieldDescriptor d = some ty := by rcases q7 _ ht with q | q <;> exact ⟨_, q⟩
  refine ⟨r1, r2.wr W, fun t m => ?_, fun t m => ?_, fun t m => ⟨fun hk => ?_, fun hk => ?_⟩, fun q => ?_⟩
  · obtain ⟨u1, u2⟩ := q1 _ m _ ht
    by_cases e : t.1 = i
    · have e2 := u1 e
      subst e2
      show Fld Z h' en.1 cd.1 n d (.int (ups F i x i))
      rw [ups_at]
      exact (r3 _ ht).same W
    · show Fld Z h' en.1 cd.1 _ _ (.int (ups F i x t.1))
      rw [ups_ne _ _ e]
      obtain ⟨ty1, p1⟩ : ∃ ty, parseFieldDescriptor t.2.2 = some ty := by rcases q7 _ m with q | q <;> exact ⟨_, q⟩
      have z0 := slot_ne (o2 _ m) (o2 _ ht) (u2 e) p1 p0
      exact (r3 t m).other W (Or.inr z0)
  · have e1 := o3 _ m
    have e2 := o2 _ ht
    have e3 := q4 _ ht _ m
    have e4 := snJ e1 e2 (Ne.symm e3) p0
    have e5 := r4 t m
    exact e5.other W (Or.inr e4)
  · obtain ⟨a1, a2⟩ := (r5 t m).1 hk
    have z0 := slot_ne (o4 _ m) (o2 _ ht) (Ne.symm (q5 _ ht _ m)) (q8 _ m).1 p0
    exact ⟨a1.other W (Or.inr z0), a2.other W (nn (by omega))⟩
  · have z0 := slot_ne (o4 _ m) (o2 _ ht) (Ne.symm (q5 _ ht _ m)) (q8 _ m).1 p0
    exact ((r5 t m).2 hk).other W (Or.inr z0)
  · rw [W.size]; exact r6 q
theorem relC.putJ (ok : CO Z a0 cd) {i : Nat} {n : String} {x : Int64} (hR : relC Z cd en (k, F, G, A, B) h) (ht : (i, n) ∈ cd.2.2.1) (W : Wr h h' en.1 (Jvm.RoadKit.slotOf Z cd.1 n "J") (.long x)) : relC Z cd en (k, F, ups G i x, A, B) h' := by
  obtain ⟨r1, r2, r3, r4, r5, r6⟩ := hR
  obtain ⟨-, o2, o3, o4, q1, q2, q3, q4, q5, q6, q7, q8⟩ := ok
  refine ⟨r1, r2.wr W, fun t m => ?_, fun t m => ?_, fun t m => ⟨fun hk => ?_, fun hk => ?_⟩, fun q => ?_⟩
  · obtain ⟨ty1, p1⟩ : ∃ ty, parseFieldDescriptor t.2.2 = some ty := by rcases q7 _ m with q | q <;> exact ⟨_, q⟩
    have z0 := Ne.symm (snJ (o3 _ ht) (o2 _ m) (Ne.symm (q4 _ m _ ht)) p1)
    exact (r3 t m).other W (Or.inr z0)
  · obtain ⟨u1, u2⟩ := q2 _ m _ ht
    by_cases e : t.1 = i
    · have e2 := u1 e
      subst e2
      show Fld Z h' en.1 cd.1 n "J" (.long (ups G i x i))
      rw [ups_at]
      exact (r4 _ ht).same W
    · show Fld Z h' en.1 cd.1 _ _ (.long (ups G i x t.1))
      rw [ups_ne _ _ e]
      have z0 := snJ (o3 _ m) (o3 _ ht) (u2 e) pJ
      exact (r4 t m).other W (Or.inr z0)
  · obtain ⟨a1, a2⟩ := (r5 t m).1 hk
    have z0 := Ne.symm (snJ (o3 _ ht) (o4 _ m) (q6 _ ht _ m) (q8 _ m).1)
    exact ⟨a1.other W (Or.inr z0), a2.other W (nn (by omega))⟩
  · have z0 := Ne.symm (snJ (o3 _ ht) (o4 _ m) (q6 _ ht _ m) (q8 _ m).1)
    exact ((r5 t m).2 hk).other W (Or.inr z0)
  · rw [W.size]; exact r6 q
theorem relC.stI (ok : CO Z a0 cd) {i : Nat} {n d : String} {ty : FieldType} {len j x : Int32} (hty : ty ≠ .long) (h0 : ¬ j < 0) (h1 : j < len) (hR : relC Z cd en (k, F, G, A, B) h) (ht : (i, n, d, ty, len) ∈ cd.2.2.2) (W : Wr h h' (en.1 + (i + 1)) j.toNatClampNeg (.int x)) : relC Z cd en (k, F, G, ups A i (ups (A i) j x), B) h' := by
  obtain ⟨r1, r2, r3, r4, r5, r6⟩ := hR
  obtain ⟨-, o2, o3, o4, q1, q2, q3, q4, q5, q6, q7, q8⟩ := ok
  refine ⟨r1, r2.wr W, fun t m => (r3 t m).other W (Or.inl (nn (by omega))), fun t m => (r4 t m).other W (Or.inl (nn (by omega))), fun t m => ⟨fun hk => ?_, fun hk => ((r5 t m).2 hk).other W (Or.inl (nn (by omega)))⟩, fun q => by rw [W.size]; exact r6 q⟩
  obtain ⟨a1, a2⟩ := (r5 t m).1 hk
  refine ⟨a1.other W (Or.inl (nn (by omega))), ?_⟩
  obtain ⟨u1, u2⟩ := q3 _ m _ ht
  show AtA Z h' _ _ _ (ups A i (ups (A i) j x) t.1) (B t.1)
  by_cases e : t.1 = i
  · have e2 := u1 e
    subst e2
    rw [ups_at]
    exact a2.stI hty h0 h1 W
  · rw [ups_ne _ _ e]
    exact a2.other W (nn (by omega))
theorem relC.stJ (ok : CO Z a0 cd) {i : Nat} {n d : String} {len j : Int32} {x : Int64} (h0 : ¬ j < 0) (h1 : j < len) (hR : relC Z cd en (k, F, G, A, B) h) (ht : (i, n, d, .long, len) ∈ cd.2.2.2) (W : Wr h h' (en.1 + (i + 1)) j.toNatClampNeg (.long x)) : relC Z cd en (k, F, G, A, ups B i (ups (B i) j x)) h' := by
  obtain ⟨r1, r2, r3, r4, r5, r6⟩ := hR
  obtain ⟨-, o2, o3, o4, q1, q2, q3, q4, q5, q6, q7, q8⟩ := ok
  refine ⟨r1, r2.wr W, fun t m => (r3 t m).other W (Or.inl (nn (by omega))), fun t m => (r4 t m).other W (Or.inl (nn (by omega))), fun t m => ⟨fun hk => ?_, fun hk => ((r5 t m).2 hk).other W (Or.inl (nn (by omega)))⟩, fun q => by rw [W.size]; exact r6 q⟩
  obtain ⟨a1, a2⟩ := (r5 t m).1 hk
  refine ⟨a1.other W (Or.inl (nn (by omega))), ?_⟩
  obtain ⟨u1, u2⟩ := q3 _ m _ ht
  show AtA Z h' _ _ _ (A t.1) (ups B i (ups (B i) j x) t.1)
  by_cases e : t.1 = i
  · have e2 := u1 e
    subst e2
    rw [ups_at]
    exact a2.stJ h0 h1 W
  · rw [ups_ne _ _ e]
    exact a2.other W (nn (by omega))
theorem relC.newA (ok : CO Z a0 cd) {h1 : Heap} {n d : String} {ty : FieldType} {len : Int32} {cA : ClassId} (hR : relC Z cd en (k, F, G, A, B) h) (ht : (k, n, d, ty, len) ∈ cd.2.2.2) (hA : A k = fun _ => 0) (hB : B k = fun _ => 0) (E : Ext h h1) (N : Arr Z h1 h.size (Jvm.RoadKit.newA cA ty len) ty) (W : Wr h1 h' en.1 (Jvm.RoadKit.slotOf Z cd.1 n d) (.ref h.size)) (hz : h'.size = h.size + 1) : relC Z cd en (k + 1, F, G, A, B) h' := by
  obtain ⟨r1, r2, r3, r4, r5, r6⟩ := hR
  obtain ⟨-, o2, o3, o4, q1, q2, q3, q4, q5, q6, q7, q8⟩ := ok
  have hsz : h.size = en.1 + 1 + k := r6 (q8 _ ht).2.1
  refine ⟨r1, (r2.ext E).wr W, fun t m => ?_, fun t m => ?_, fun t m => ⟨fun hk => ?_, fun hk => ?_⟩, fun q => ?_⟩
  · obtain ⟨ty1, p1⟩ : ∃ ty, parseFieldDescriptor t.2.2 = some ty := by rcases q7 _ m with q | q <;> exact ⟨_, q⟩
    have z0 := slot_ne (o2 _ m) (o4 _ ht) (q5 _ m _ ht) p1 (q8 _ ht).1
    exact ((r3 t m).ext E).other W (Or.inr z0)
  · have z0 := snJ (o3 _ m) (o4 _ ht) (q6 _ m _ ht) (q8 _ ht).1
    exact ((r4 t m).ext E).other W (Or.inr z0)
  · obtain ⟨u1, u2⟩ := q3 _ m _ ht
    by_cases e : t.1 = k
    · have e2 := u1 e
      subst e2
      have f0 := ((r5 _ ht).2 (Nat.lt_irrefl k)).ext E
      refine ⟨?_, ?_⟩
      · have := f0.same W
        rw [hsz] at this
        show Fld Z h' en.1 cd.1 n d (.ref (en.1 + (k + 1)))
        rw [show en.1 + (k + 1) = en.1 + 1 + k by omega]
        exact this
      · show AtA Z h' (en.1 + (k + 1)) ty len (A k) (B k)
        rw [hA, hB, show en.1 + (k + 1) = h.size by omega]
        refine AtA.other W ⟨_, N, sz_new _ _ _, fun x x0 x1 => ?_⟩ (nn (by omega))
        rw [get_new (in_of (cl := Jvm.RoadKit.newA cA ty len) (sz_new _ _ _) x0 x1 |> fun q => by rwa [sz_new] at q)]
        have o := (q8 _ ht).2.2.1
        rcases o with o | o | o <;> (have o' : ty = _ := o; subst o'; rfl)
    · obtain ⟨a1, a2⟩ := (r5 t m).1 (by show t.1 < k; have : t.1 < k + 1 := hk; omega)
      have z0 := slot_ne (o4 _ m) (o4 _ ht) (u2 e) (q8 _ m).1 (q8 _ ht).1
      exact ⟨(a1.ext E).other W (Or.inr z0), (a2.ext E).other W (nn (by omega))⟩
  · obtain ⟨u1, u2⟩ := q3 _ m _ ht
    have hk' : ¬ t.1 < k + 1 := hk
    have z0 := slot_ne (o4 _ m) (o4 _ ht) (u2 (by show t.1 ≠ k; omega)) (q8 _ m).1 (q8 _ ht).1
    exact (((r5 t m).2 (by show ¬ t.1 < k; omega)).ext E).other W (Or.inr z0)
  · show h'.size = en.1 + 1 + (k + 1)
    omega
end Rel
section StepsC
variable {l : Launch} {Z : State} {a0 : Array Value} {cd : CD} {md : MD} {pc pc' pc1 : Nat} {L L' : List Slot} {S : List Value} {k : Nat} {F : Nat → Int32} {G : Nat → Int64} {A : Nat → Int32 → Int32} {B : Nat → Int32 → Int64} {cu su cu' su' : Nat} {Q : Option Value → WO → Prop} {idx : Nat}
theorem Wk.getI {i : Nat} {n d : String} {x : Int32} (ht : (i, n, d) ∈ cd.2.1) (wl : (Cond.fieldLink cd.1 idx cd.1 n d).before a0 Z = true) (hd : InsA md pc (.getfield idx) 3 pc') (hx : F i = x) (h : Wk l Z (MoC Z cd) md pc' L (.int x :: S) (k, F, G, A, B) cu su Q) : Wk l Z (MoC Z cd) md pc L (.ref 0 :: S) (k, F, G, A, B) cu su Q :=
  fun en p e s m args below meth c T locs r X K hz hF hR hL => by
  obtain ⟨hd, rfl⟩ := hd
  subst hx
  obtain ⟨T1, X1, e1, st⟩ := getF X K.1 K.2.1 K.2.2.1 (host := "") (Or.inl wl) Via.refl rfl (hR.2.2.1 _ ht) (g := mkF m pc r (.ref en.1 :: S.map (rv ((MoC Z cd).rho en)))) rfl rfl (hb K.by hd)
  refine (h en p e s m args below meth c T1 locs r X1 K (by rw [e1]; exact hz) hF (by rw [e1]; exact hR) hL).pre (fun _ q => by rw [e1] at q; exact q) fun t q => st t q
theorem Wk.getJ {i : Nat} {n : String} {x : Int64} (ht : (i, n) ∈ cd.2.2.1) (wl : (Cond.fieldLink cd.1 idx cd.1 n "J").before a0 Z = true) (hd : InsA md pc (.getfield idx) 3 pc') (hx : G i = x) (h : Wk l Z (MoC Z cd) md pc' L (.long x :: S) (k, F, G, A, B) cu su Q) : Wk l Z (MoC Z cd) md pc L (.ref 0 :: S) (k, F, G, A, B) cu su Q :=
  fun en p e s m args below meth c T locs r X K hz hF hR hL => by
  obtain ⟨hd, rfl⟩ := hd
  subst hx
  obtain ⟨T1, X1, e1, st⟩ := getF X K.1 K.2.1 K.2.2.1 (host := "") (Or.inl wl) Via.refl rfl (hR.2.2.2.1 _ ht) (g := mkF m pc r (.ref en.1 :: S.map (rv ((MoC Z cd).rho en)))) rfl rfl (hb K.by hd)
  refine (h en p e s m args below meth c T1 locs r X1 K (by rw [e1]; exact hz) hF (by rw [e1]; exact hR) hL).pre (fun _ q => by rw [e1] at q; exact q) fun t q => st t q
theorem Wk.getA {i i' : Nat} {n d : String} {ty : FieldType} {len : Int32} (ht : (i, n, d, ty, len) ∈ cd.2.2.2) (hi : i < k) (hi' : i + 1 = i') (wl : (Cond.fieldLink cd.1 idx cd.1 n d).before a0 Z = true) (hd : InsA md pc (.getfield idx) 3 pc') (h : Wk l Z (MoC Z cd) md pc' L (.ref i' :: S) (k, F, G, A, B) cu su Q) : Wk l Z (MoC Z cd) md pc L (.ref 0 :: S) (k, F, G, A, B) cu su Q :=
  fun en p e s m args below meth c T locs r X K hz hF hR hL => by
  obtain ⟨hd, rfl⟩ := hd
  subst hi'
  obtain ⟨T1, X1, e1, st⟩ := getF X K.1 K.2.1 K.2.2.1 (host := "") (Or.inl wl) Via.refl rfl ((hR.2.2.2.2.1 _ ht).1 hi).1 (g := mkF m pc r (.ref en.1 :: S.map (rv ((MoC Z cd).rho en)))) rfl rfl (hb K.by hd)
  refine (h en p e s m args below meth c T1 locs r X1 K (by rw [e1]; exact hz) hF (by rw [e1]; exact hR) hL).pre (fun _ q => by rw [e1] at q; exact q) fun t q => st t q
theorem Wk.putI (ok : CO Z a0 cd) {i : Nat} {n : String} {x : Int32} (ht : (i, n, "I") ∈ cd.2.1) (wl : (Cond.fieldLink cd.1 idx cd.1 n "I").before a0 Z = true) (wy : (Cond.lays cd.1 cd.1 n "I").before a0 Z = true ∨ ((Cond.laysFinal cd.1 cd.1 n "I").before a0 Z = true ∧ (nmOf md).name = "<init>")) (hd : InsA md pc (.putfield idx) 3 pc') (h : Wk l Z (MoC Z cd) md pc' L S (k, ups F i x, G, A, B) cu su Q) : Wk l Z (MoC Z cd) md pc L (.int x :: .ref 0 :: S) (k, F, G, A, B) cu su Q :=
  fun en p e s m args below meth c T locs r X K hz hF hR hL => by
  obtain ⟨hd, rfl⟩ := hd
  obtain ⟨kk, wi⟩ := ok.1
  obtain ⟨T1, h1, X1, e1, W1, st⟩ := putF X K.1 K.2.1 K.2.2.1 (host := "") (Or.inl wl) Via.refl rfl (hR.2.2.1 _ ht) hR.2.1 (wy.imp id fun q => ⟨q.1, rfl, K.2.2.2.1.trans q.2⟩) wi (ty := .int) (v := .int x) (by decide +kernel) rfl rfl (g := mkF m pc r (.int x :: .ref en.1 :: S.map (rv ((MoC Z cd).rho en)))) rfl rfl (hb K.by hd)
  subst e1
  exact (h en p e s m args below meth c T1 _ r X1 K (by rw [W1.size]; exact hz) (Fr.snoc X1 hF hR.1) (relC.putI ok hR ht W1) hL).pre (fun _ q => (frmC.wr W1 (Nat.le_refl _) (Nat.le_add_right _ _)).trans q) fun t q => st t q
theorem Wk.putZ (ok : CO Z a0 cd) {i : Nat} {n : String} {x y : Int32} (hy : nar .boolean x = y) (ht : (i, n, "Z") ∈ cd.2.1) (wl : (Cond.fieldLink cd.1 idx cd.1 n "Z").before a0 Z = true) (wy : (Cond.lays cd.1 cd.1 n "Z").before a0 Z = true ∨ ((Cond.laysFinal cd.1 cd.1 n "Z").before a0 Z = true ∧ (nmOf md).name = "<init>")) (hd : InsA md pc (.putfield idx) 3 pc') (h : Wk l Z (MoC Z cd) md pc' L S (k, ups F i y, G, A, B) cu su Q) : Wk l Z (MoC Z cd) md pc L (.int x :: .ref 0 :: S) (k, F, G, A, B) cu su Q :=
  fun en p e s m args below meth c T locs r X K hz hF hR hL => by
  obtain ⟨hd, rfl⟩ := hd
  subst hy
  obtain ⟨kk, wi⟩ := ok.1
  obtain ⟨T1, h1, X1, e1, W1, st⟩ := putFN X K.1 K.2.1 K.2.2.1 wl Via.refl rfl (hR.2.2.1 _ ht) hR.2.1 (wy.imp id fun q => ⟨q.1, rfl, K.2.2.2.1.trans q.2⟩) wi (ty := .boolean) (v := .int x) (v' := .int (nar .boolean x)) (by decide +kernel) rfl (fits_nar_bool x) (g := mkF m pc r (.int x :: .ref en.1 :: S.map (rv ((MoC Z cd).rho en)))) rfl rfl (hb K.by hd)
  subst e1
  exact (h en p e s m args below meth c T1 _ r X1 K (by rw [W1.size]; exact hz) (Fr.snoc X1 hF hR.1) (relC.putI ok hR ht W1) hL).pre (fun _ q => (frmC.wr W1 (Nat.le_refl _) (Nat.le_add_right _ _)).trans q) fun t q => st t q
theorem Wk.putJ (ok : CO Z a0 cd) {i : Nat} {n : String} {x : Int64} (ht : (i, n) ∈ cd.2.2.1) (wl : (Cond.fieldLink cd.1 idx cd.1 n "J").before a0 Z = true) (wy : (Cond.lays cd.1 cd.1 n "J").before a0 Z = true ∨ ((Cond.laysFinal cd.1 cd.1 n "J").before a0 Z = true ∧ (nmOf md).name = "<init>")) (hd : InsA md pc (.putfield idx) 3 pc') (h : Wk l Z (MoC Z cd) md pc' L S (k, F, ups G i x, A, B) cu su Q) : Wk l Z (MoC Z cd) md pc L (.long x :: .ref 0 :: S) (k, F, G, A, B) cu su Q :=
  fun en p e s m args below meth c T locs r X K hz hF hR hL => by
  obtain ⟨hd, rfl⟩ := hd
  obtain ⟨kk, wi⟩ := ok.1
  obtain ⟨T1, h1, X1, e1, W1, st⟩ := putF X K.1 K.2.1 K.2.2.1 (host := "") (Or.inl wl) Via.refl rfl (hR.2.2.2.1 _ ht) hR.2.1 (wy.imp id fun q => ⟨q.1, rfl, K.2.2.2.1.trans q.2⟩) wi (ty := .long) (v := .long x) (by decide +kernel) rfl rfl (g := mkF m pc r (.long x :: .ref en.1 :: S.map (rv ((MoC Z cd).rho en)))) rfl rfl (hb K.by hd)
  subst e1
  exact (h en p e s m args below meth c T1 _ r X1 K (by rw [W1.size]; exact hz) (Fr.snoc X1 hF hR.1) (relC.putJ ok hR ht W1) hL).pre (fun _ q => (frmC.wr W1 (Nat.le_refl _) (Nat.le_add_right _ _)).trans q) fun t q => st t q
/-- an array is made and laid into its field at once -/
theorem Wk.newA (ok : CO Z a0 cd) {aty : ArrayType} {len : Int32} {n d : String} {ty : FieldType} {k' : Nat} (hty : newarray.typeOf aty = ty) (wa : (Cond.arrayClass (newarray.typeOf aty)).before a0 Z = true) (ht : (k, n, d, ty, len) ∈ cd.2.2.2) (wl : (Cond.fieldLink cd.1 idx cd.1 n d).before a0 Z = true)
    (wy : (Cond.lays cd.1 cd.1 n d).before a0 Z = true ∨ ((Cond.laysFinal cd.1 cd.1 n d).before a0 Z = true ∧ (nmOf md).name = "<init>")) (hd : InsA md pc (.newarray aty) 2 pc1) (hd2 : InsA md pc1 (.putfield idx) 3 pc') (hA : A k = fun _ => 0) (hB : B k = fun _ => 0) (hk : k + 1 = k') (hcu : cu + 1 = cu') (hsu : su + len.toNatClampNeg = su')
    (hcap : len.toNatClampNeg * 8 ≤ 536870912) (hc : cu' ≤ (rmOf md).cells) (hs : su' ≤ (rmOf md).slots) (h : Wk l Z (MoC Z cd) md pc' L S (k', F, G, A, B) cu' su' Q) : Wk l Z (MoC Z cd) md pc L (.int len :: .ref 0 :: S) (k, F, G, A, B) cu su Q :=
  fun en p e s m args below meth c T locs r X K hz hF hR hL => by
  obtain ⟨hd, rfl⟩ := hd
  obtain ⟨hd2, rfl⟩ := hd2
  subst hk hcu hsu hty
  obtain ⟨kk, wi⟩ := ok.1
  have p8 := ok.2.2.2.2.2.2.2.2.2.2.2 _ ht
  obtain ⟨T1, h1, cA, X1, e1, E1, N1, st1⟩ := newP X K.1 K.2.1 wa rfl (g := mkF m pc r (.int len :: .ref en.1 :: S.map (rv ((MoC Z cd).rho en)))) rfl (hb K.by hd) rfl p8.2.2.2 (cap := len.toNatClampNeg) (Nat.le_refl _) hcap hc hs
  subst e1
  obtain ⟨T2, h2, X2, e2, W2, st2⟩ := putF X1 K.1 K.2.1 K.2.2.1 (host := "") (Or.inl wl) Via.refl rfl (((hR.2.2.2.2.1 _ ht).2 (Nat.lt_irrefl k)).ext E1) (hR.2.1.ext E1) (wy.imp id fun q => ⟨q.1, rfl, K.2.2.2.1.trans q.2⟩) wi (v := .ref T.heap.size) p8.1 rfl rfl (g := mkF m (pc + 2) r (.ref T.heap.size :: .ref en.1 :: S.map (rv ((MoC Z cd).rho en)))) rfl rfl (hb K.by hd2)
  subst e2
  have z1 := X1.heapSize
  have z2 : (T.heap.size : Nat) < T1.heap.size := N1.lt
  have z3 := W2.size
  exact (h en p e s m args below meth c T2 _ r X2 K (by omega) (Fr.snoc X2 hF hR.1) (relC.newA ok hR ht hA hB E1 N1 W2 (by omega)) hL).pre (fun _ q => ((frmC.ext E1).trans (frmC.wr W2 (Nat.le_refl _) (Nat.le_add_right _ _))).trans q) fun t q => st1 t (st2 t q)
theorem relC.arr {en : Nat × Nat} {h : Heap} {i : Nat} {n d : String} {ty : FieldType} {len : Int32} (hR : relC Z cd en (k, F, G, A, B) h) (ht : (i, n, d, ty, len) ∈ cd.2.2.2) (hi : i < k) : AtA Z h (en.1 + (i + 1)) ty len (A i) (B i) := ((hR.2.2.2.2.1 _ ht).1 hi).2
theorem Wk.iaload {i i' : Nat} {n d : String} {len x : Int32} {y : Int32} (ht : (i, n, d, .int, len) ∈ cd.2.2.2) (hi : i < k) (hi' : i + 1 = i') (h0 : ¬ x < 0) (h1 : x < len) (hd : InsA md pc .iaload 1 pc') (hy : A i x = y) (h : Wk l Z (MoC Z cd) md pc' L (.int y :: S) (k, F, G, A, B) cu su Q) : Wk l Z (MoC Z cd) md pc L (.int x :: .ref i' :: S) (k, F, G, A, B) cu su Q :=
  fun en p e s m args below meth c T locs r X K hz hF hR hL => by
  obtain ⟨hd, rfl⟩ := hd
  subst hi' hy
  obtain ⟨cl, g1, g2, g3⟩ := relC.arr hR ht hi
  exact (h en p e s m args below meth c T locs r X K hz hF hR hL).pre (fun _ q => q) fun t q => X.iaload K.1 (j := x) (v := .int (A i x)) g1.1 (State.isArrayOf_alike K.2.1.alike g1.2.1) g1.2.2 (in_of g2 h0 h1) (g3 x h0 h1) (g := mkF m pc r (.int x :: .ref (en.1 + (i + 1)) :: S.map (rv ((MoC Z cd).rho en)))) rfl rfl (hb K.by hd) _ q
theorem Wk.baload {i i' : Nat} {n d : String} {len x : Int32} {y : Int32} (ht : (i, n, d, .boolean, len) ∈ cd.2.2.2) (hi : i < k) (hi' : i + 1 = i') (h0 : ¬ x < 0) (h1 : x < len) (hd : InsA md pc .baload 1 pc') (hy : A i x = y) (h : Wk l Z (MoC Z cd) md pc' L (.int y :: S) (k, F, G, A, B) cu su Q) : Wk l Z (MoC Z cd) md pc L (.int x :: .ref i' :: S) (k, F, G, A, B) cu su Q :=
  fun en p e s m args below meth c T locs r X K hz hF hR hL => by
  obtain ⟨hd, rfl⟩ := hd
  subst hi' hy
  obtain ⟨cl, g1, g2, g3⟩ := relC.arr hR ht hi
  exact (h en p e s m args below meth c T locs r X K hz hF hR hL).pre (fun _ q => q) fun t q => X.baloadBooleans K.1 (j := x) (v := .int (A i x)) g1.1 (State.isArrayOf_alike K.2.1.alike g1.2.1) g1.2.2 (in_of g2 h0 h1) (g3 x h0 h1) (g := mkF m pc r (.int x :: .ref (en.1 + (i + 1)) :: S.map (rv ((MoC Z cd).rho en)))) rfl rfl (hb K.by hd) _ q
theorem Wk.laload {i i' : Nat} {n d : String} {len x : Int32} {y : Int64} (ht : (i, n, d, .long, len) ∈ cd.2.2.2) (hi : i < k) (hi' : i + 1 = i') (h0 : ¬ x < 0) (h1 : x < len) (hd : InsA md pc .laload 1 pc') (hy : B i x = y) (h : Wk l Z (MoC Z cd) md pc' L (.long y :: S) (k, F, G, A, B) cu su Q) : Wk l Z (MoC Z cd) md pc L (.int x :: .ref i' :: S) (k, F, G, A, B) cu su Q :=
  fun en p e s m args below meth c T locs r X K hz hF hR hL => by
  obtain ⟨hd, rfl⟩ := hd
  subst hi' hy
  obtain ⟨cl, g1, g2, g3⟩ := relC.arr hR ht hi
  exact (h en p e s m args below meth c T locs r X K hz hF hR hL).pre (fun _ q => q) fun t q => X.laload K.1 (j := x) (v := .long (B i x)) g1.1 (State.isArrayOf_alike K.2.1.alike g1.2.1) g1.2.2 (in_of g2 h0 h1) (g3 x h0 h1) (g := mkF m pc r (.int x :: .ref (en.1 + (i + 1)) :: S.map (rv ((MoC Z cd).rho en)))) rfl rfl (hb K.by hd) _ q
theorem Wk.iastore (ok : CO Z a0 cd) {f : Int32 → Int32} {i i' : Nat} {n d : String} {len x v : Int32} (ht : (i, n, d, .int, len) ∈ cd.2.2.2) (hf : A i = f) (hi : i < k) (hi' : i + 1 = i') (h0 : ¬ x < 0) (h1 : x < len) (hd : InsA md pc .iastore 1 pc') (h : Wk l Z (MoC Z cd) md pc' L S (k, F, G, ups A i (ups f x v), B) cu su Q) : Wk l Z (MoC Z cd) md pc L (.int v :: .int x :: .ref i' :: S) (k, F, G, A, B) cu su Q :=
  fun en p e s m args below meth c T locs r X K hz hF hR hL => by
  obtain ⟨hd, rfl⟩ := hd
  subst hi' hf
  obtain ⟨cl, g1, g2, g3⟩ := relC.arr hR ht hi
  obtain ⟨T1, e1', X1, e1, W1, st⟩ := stI X K.1 K.2.1 rfl g1 (in_of g2 h0 h1) (g := mkF m pc r (.int v :: .int x :: .ref (en.1 + (i + 1)) :: S.map (rv ((MoC Z cd).rho en)))) rfl rfl (hb K.by hd)
  subst e1
  have p8 := (ok.2.2.2.2.2.2.2.2.2.2.2 _ ht).2.1
  exact (h en p e s m args below meth c T1 _ r X1 K (by rw [W1.size]; exact hz) (Fr.snoc X1 hF (Nat.le_trans hR.1 (Nat.le_add_right _ _))) (relC.stI ok (by decide) h0 h1 hR ht W1) hL).pre (fun _ q => (frmC.wr W1 (Nat.le_add_right _ _) (Nat.add_le_add_left (show i + 1 ≤ cd.2.2.2.length from p8) _)).trans q) fun t q => st t q
theorem Wk.bastore (ok : CO Z a0 cd) {f : Int32 → Int32} {i i' : Nat} {n d : String} {len x v v' : Int32} (hv : nar .boolean v = v') (ht : (i, n, d, .boolean, len) ∈ cd.2.2.2) (hf : A i = f) (hi : i < k) (hi' : i + 1 = i') (h0 : ¬ x < 0) (h1 : x < len) (hd : InsA md pc .bastore 1 pc') (h : Wk l Z (MoC Z cd) md pc' L S (k, F, G, ups A i (ups f x v'), B) cu su Q) : Wk l Z (MoC Z cd) md pc L (.int v :: .int x :: .ref i' :: S) (k, F, G, A, B) cu su Q :=
  fun en p e s m args below meth c T locs r X K hz hF hR hL => by
  obtain ⟨hd, rfl⟩ := hd
  subst hi' hv hf
  obtain ⟨cl, g1, g2, g3⟩ := relC.arr hR ht hi
  obtain ⟨T1, e1', X1, e1, W1, st⟩ := stZ X K.1 K.2.1 rfl g1 (in_of g2 h0 h1) (g := mkF m pc r (.int v :: .int x :: .ref (en.1 + (i + 1)) :: S.map (rv ((MoC Z cd).rho en)))) rfl rfl (hb K.by hd)
  subst e1
  have p8 := (ok.2.2.2.2.2.2.2.2.2.2.2 _ ht).2.1
  exact (h en p e s m args below meth c T1 _ r X1 K (by rw [W1.size]; exact hz) (Fr.snoc X1 hF (Nat.le_trans hR.1 (Nat.le_add_right _ _))) (relC.stI ok (by decide) h0 h1 hR ht W1) hL).pre (fun _ q => (frmC.wr W1 (Nat.le_add_right _ _) (Nat.add_le_add_left (show i + 1 ≤ cd.2.2.2.length from p8) _)).trans q) fun t q => st t q
theorem Wk.lastore (ok : CO Z a0 cd) {f : Int32 → Int64} {i i' : Nat} {n d : String} {len x : Int32} {v : Int64} (ht : (i, n, d, .long, len) ∈ cd.2.2.2) (hf : B i = f) (hi : i < k) (hi' : i + 1 = i') (h0 : ¬ x < 0) (h1 : x < len) (hd : InsA md pc .lastore 1 pc') (h : Wk l Z (MoC Z cd) md pc' L S (k, F, G, A, ups B i (ups f x v)) cu su Q) : Wk l Z (MoC Z cd) md pc L (.long v :: .int x :: .ref i' :: S) (k, F, G, A, B) cu su Q :=
  fun en p e s m args below meth c T locs r X K hz hF hR hL => by
  obtain ⟨hd, rfl⟩ := hd
  subst hi' hf
  obtain ⟨cl, g1, g2, g3⟩ := relC.arr hR ht hi
  obtain ⟨T1, e1', X1, e1, W1, st⟩ := stJ X K.1 K.2.1 rfl g1 (in_of g2 h0 h1) (g := mkF m pc r (.long v :: .int x :: .ref (en.1 + (i + 1)) :: S.map (rv ((MoC Z cd).rho en)))) rfl rfl (hb K.by hd)
  subst e1
  have p8 := (ok.2.2.2.2.2.2.2.2.2.2.2 _ ht).2.1
  exact (h en p e s m args below meth c T1 _ r X1 K (by rw [W1.size]; exact hz) (Fr.snoc X1 hF (Nat.le_trans hR.1 (Nat.le_add_right _ _))) (relC.stJ ok h0 h1 hR ht W1) hL).pre (fun _ q => (frmC.wr W1 (Nat.le_add_right _ _) (Nat.add_le_add_left (show i + 1 ≤ cd.2.2.2.length from p8) _)).trans q) fun t q => st t q
/-- Object.<init> -/
theorem Wk.initO {μ E : Type} {M : Mode μ E} {w : μ} {Q : Option Value → μ → Prop} {v : Nat} (w1 : (Cond.methodLink M.own idx Lib.objectInit).before a0 Z = true) (w2 : (Cond.instanceMethod Lib.objectInit).before a0 Z = true) (w3 : (Cond.code Lib.objectInit ⟨#[0xb1]⟩ 1 none).before a0 Z = true) (hd : InsA md pc (.invokespecial idx) 3 pc') (hl : L.length = mxOf md) (hf : 1 ≤ (rmOf md).frames) (hW : (S.map fun v => v.category).sum + 12 ≤ (rmOf md).locals)
    (h : Wk l Z M md pc' L S w cu su Q) : Wk l Z M md pc L (.ref v :: S) w cu su Q :=
  fun en p e s m args below meth c T locs r X K hz hF hR hL => by
  obtain ⟨hd, rfl⟩ := hd
  have cs : ∀ S : List Value, ((S.map (rv (M.rho en))).map fun v => v.category).sum = (S.map fun v => v.category).sum := fun S => by rw [List.map_map]; congr 1; exact List.map_congr_left fun v _ => rv_cat _ v
  obtain ⟨T1, X1, e1, st⟩ := Jvm.RoadKit.initO X K.1 K.2.1 K.2.2.1 w1 w2 w3 rfl (g := mkF m pc r (.ref (M.rho en v) :: S.map (rv (M.rho en)))) rfl (by show r.size = _; rw [hL.1, hl]; exact K.2.2.2.2.2.2.2.symm) rfl (hb K.by hd) hf (W := (S.map fun v => v.category).sum) (by show 2 * 0 + _ ≤ _; rw [cs]; omega) hW
  exact (h en p e s m args below meth c T1 locs r X1 K (by rw [e1]; exact hz) hF (by rw [e1]; exact hR) hL).pre (fun _ q => by rw [e1] at q; exact q) fun t q => st t q
end StepsC
end Jvm.Own

namespace Jvm.Own
open Jvm Jvm.ClassFile Sem Op Lib Jvm.Free Jvm.Stand Jvm.LawKit Jvm.RoadKit
/-! ## 4. Calls -/
def noRef : List Value → Bool
  | [] => true
  | .ref _ :: _ => false
  | _ :: t => noRef t
theorem noRef.map : (as : List Value) → noRef as = true → ∀ ρ, as.map (rv ρ) = as
  | [], _, _ => rfl
  | .ref _ :: _, h, _ => by cases h
  | .int _ :: t, h, ρ => by rw [List.map_cons, noRef.map t h ρ]; rfl
  | .long _ :: t, h, ρ => by rw [List.map_cons, noRef.map t h ρ]; rfl
  | .float _ :: t, h, ρ => by rw [List.map_cons, noRef.map t h ρ]; rfl
  | .double _ :: t, h, ρ => by rw [List.map_cons, noRef.map t h ρ]; rfl
  | .null :: t, h, ρ => by rw [List.map_cons, noRef.map t h ρ]; rfl
  | .retAddr _ :: t, h, ρ => by rw [List.map_cons, noRef.map t h ρ]; rfl
/-- what the words say of a callee: an instance method -/
def CalV (Z : State) (a0 : Array Value) (md : MD) (n : Nat) : Prop :=
  plainName (nmOf md).cls = true ∧ ((nmOf md).cls ≠ "java/lang/invoke/MethodHandle" ∧ (nmOf md).cls ≠ "java/lang/invoke/VarHandle") ∧ (∀ sig, parseMethodDescriptor (nmOf md).desc = some sig → n = sig.parameters.length) ∧
  (Cond.instanceMethod (nmOf md)).before a0 Z = true ∧ (Cond.code (nmOf md) (byOf md) (mxOf md) (rtOf md)).before a0 Z = true ∧ (Cond.initialized (nmOf md).cls).before a0 Z = true ∧
  (((Cond.declares (nmOf md)).before a0 Z = true ∧ (Cond.selects (nmOf md).cls (nmOf md) (nmOf md)).before a0 Z = true) ∨ ((Cond.privateMethod (nmOf md)).before a0 Z = true ∧ ∃ kk, (Cond.instantiable (nmOf md).cls kk).before a0 Z = true))
/-- a constructor -/
def CalI (Z : State) (a0 : Array Value) (md : MD) (n : Nat) : Prop :=
  plainName (nmOf md).cls = true ∧ ((nmOf md).cls ≠ "java/lang/invoke/MethodHandle" ∧ (nmOf md).cls ≠ "java/lang/invoke/VarHandle") ∧ (∀ sig, parseMethodDescriptor (nmOf md).desc = some sig → n = sig.parameters.length) ∧
  (Cond.instanceMethod (nmOf md)).before a0 Z = true ∧ (Cond.code (nmOf md) (byOf md) (mxOf md) (rtOf md)).before a0 Z = true ∧ (Cond.initialized (nmOf md).cls).before a0 Z = true ∧ (nmOf md).name = "<init>" ∧ rtOf md = none
/-- a static method -/
def CalS (Z : State) (a0 : Array Value) (md : MD) (n : Nat) : Prop :=
  plainName (nmOf md).cls = true ∧ ((nmOf md).cls ≠ "java/lang/invoke/MethodHandle" ∧ (nmOf md).cls ≠ "java/lang/invoke/VarHandle") ∧ (∀ sig, parseMethodDescriptor (nmOf md).desc = some sig → n = sig.parameters.length) ∧
  (Cond.static (nmOf md)).before a0 Z = true ∧ (Cond.code (nmOf md) (byOf md) (mxOf md) (rtOf md)).before a0 Z = true ∧ (Cond.initialized (nmOf md).cls).before a0 Z = true
/-- the figures of a call: the operands under it weigh wt -/
def Fits (md md' : MD) (wt cu su cu' su' : Nat) : Prop :=
  (rmOf md').frames + 1 ≤ (rmOf md).frames ∧ wt + (mxOf md' + 11) + (rmOf md').locals ≤ (rmOf md).locals ∧ cu + (rmOf md').cells = cu' ∧ su + (rmOf md').slots = su' ∧ cu' ≤ (rmOf md).cells ∧ su' ≤ (rmOf md).slots ∧ exOf md' = (rmOf md').cells
instance (md md' : MD) (wt cu su cu' su' : Nat) : Decidable (Fits md md' wt cu su cu' su') := by unfold Fits; infer_instance
section Core
variable {μ E : Type} {l : Launch} {Z : State} {a0 : Array Value} {M' : Mode μ E} {md md' : MD} {own : String} {p : Program} {e : Env} {s : State} {m : MethodId} {args : Array Value} {below : List Frame} {meth : Method} {c : Code} {T : State} {locs : List Loc} {cu su cu' su' wt pc idx : Nat} {as : List Value} {L' : List Slot} {w : μ} {Q' : Option Value → μ → Prop} {en : E} {a : Addr} {r : Array Slot} {rest : List Value}
theorem coreV (X : Stand p l e (rmOf md) s m args below meth c T locs cu su) (K : Kn Z own md p s m meth c) (hd : decode (byOf md) pc = .ok (.invokevirtual idx, 3)) (wl : (Cond.methodLink own idx (nmOf md')).before a0 Z = true) (cv : CalV Z a0 md' as.length) (hcal : Wk l Z M' md' 0 L' [] w 0 0 Q') (ho : M'.own = (nmOf md').cls) (hR : M'.rel en w T.heap) (hE : Exa Z T.heap a (nmOf md').cls) (ha : M'.rho en 0 = a)
    (hL : (argsToLocals (.ref 0 :: as).toArray (mxOf md')).toList = L') (hw : wfL L' = true) (ft : Fits md md' wt cu su cu' su') (hr : r.size = mxOf md) (hrest : (rest.map fun v => v.category).sum ≤ wt) :
    ∃ v T1 Lc w1, Stand p l e (rmOf md) s m args below meth c T1 (locs ++ Lc) cu' su' ∧ Q' v w1 ∧ M'.rel en w1 T1.heap ∧ M'.frm en T.heap T1.heap ∧ Fr (M'.lo en) Lc ∧ T1.heap.size = T.heap.size + exOf md' ∧ (∀ ρ x, v = some x → rv ρ x = x) ∧
      ∀ t, Steps p.tables e below (T1.setTop (mkF m (pc + 3) r (v.toList ++ rest))) t → Steps p.tables e below (T.setTop (mkF m pc r ((as.map (rv (M'.rho en))).reverse ++ .ref a :: rest))) t := by
  obtain ⟨v1, v2, v3, v4, v5, v6, v7⟩ := cv
  obtain ⟨f1, f2, f3, f4, f5, f6, f7⟩ := ft
  subst f3 f4 ha
  obtain ⟨hx, hZ, hown, -, -, -, hby, hml⟩ := K
  have bk := backOf (s := s) (args := args) (p := p) (e := e) (below := below) (len := 3) (W := wt) (R := rmOf md) (Q := fun v hh Lc => ∃ w', Q' v w' ∧ M'.rel en w' hh ∧ M'.frm en T.heap hh ∧ Fr (M'.lo en) Lc ∧ hh.size = T.heap.size + exOf md' ∧ ∀ ρ x, v = some x → rv ρ x = x) (hcal.met v1 ho hR (.ref 0 :: as) hL hw []) hZ v5 v6 f1 f2
  have hlen : ∀ sig, parseMethodDescriptor (nmOf md').desc = some sig → (as.map (rv (M'.rho en))).length = sig.parameters.length := fun sig q => by rw [List.length_map]; exact v3 sig q
  rcases v7 with ⟨d1, d2⟩ | ⟨d1, kk, d2⟩
  · obtain ⟨cq, kq, qa, qb, qc⟩ := isOf (T := T) hZ rfl hE
    obtain ⟨v, _, ⟨T1, L1, k1, n1⟩, -, X1, ⟨Lc, hQ, l1, y1, z1⟩, st⟩ := X.virtualBack hx (y := nmOf md') (z := nmOf md') hown (mvT hZ wl) (mvT hZ d1) (notFace_of_selects (args := #[]) (mvT hZ d2)) (mvT hZ d2) (mvT hZ v4) v2 bk qa qc (g := mkF m pc r ((as.map (rv (M'.rho en))).reverse ++ .ref (M'.rho en 0) :: rest)) rfl (hr.trans hml.symm) (Steps.refl _) (argsL := as.map (rv (M'.rho en))) (rest := rest) hlen rfl (by show 2 * 0 + _ ≤ _; omega) (hb hby hd) (fun _ _ => ⟨rfl, rfl, f5, f6⟩)
    dsimp only [Pt.U, Pt.locs, Pt.cells, Pt.slots] at X1 l1 y1 z1 st hQ
    subst l1 y1 z1
    obtain ⟨w1, q1, q2, q3, q4, q5, q6⟩ := hQ
    exact ⟨v, T1, Lc, w1, X1, q1, q2, q3, q4, q5, q6, fun t q => st.trans q⟩
  · obtain ⟨cc, kc, i1, i2, i3, i4, -⟩ := Cond.instantiable_spec (mvT (s := s) (args := #[]) hZ d2)
    have hni : kc.isInterface = false := by cases hq : kc.isInterface <;> simp [hq] at i4 ⊢
    have pv : s.PrivateAt (nmOf md') := Cond.privateMethod_at (mvP hZ d1 (args := #[]))
    have sel : (Cond.selects (nmOf md').cls (nmOf md') (nmOf md')).before args s = true := selects_self_of_private i1 i2 hni pv (mvT hZ v4) v2
    obtain ⟨cq, q7, q7'⟩ := hE.cell
    obtain ⟨v, _, ⟨T1, L1, k1, n1⟩, -, X1, ⟨Lc, hQ, l1, y1, z1⟩, st⟩ := X.privateBack hx (y := nmOf md') hown (mvT hZ wl) (mvT hZ v4) sel pv (mvT hZ v5) v2 bk (g := mkF m pc r ((as.map (rv (M'.rho en))).reverse ++ .ref (M'.rho en 0) :: rest)) rfl (hr.trans hml.symm) (Steps.refl _) (a := M'.rho en 0) q7 q7' (argsL := as.map (rv (M'.rho en))) (rest := rest) hlen rfl (by show 2 * 0 + _ ≤ _; omega) (hb hby hd) (fun _ _ => ⟨rfl, rfl, f5, f6⟩)
    dsimp only [Pt.U, Pt.locs, Pt.cells, Pt.slots] at X1 l1 y1 z1 st hQ
    subst l1 y1 z1
    obtain ⟨w1, q1, q2, q3, q4, q5, q6⟩ := hQ
    exact ⟨v, T1, Lc, w1, X1, q1, q2, q3, q4, q5, q6, fun t q => st.trans q⟩
theorem coreI (X : Stand p l e (rmOf md) s m args below meth c T locs cu su) (K : Kn Z own md p s m meth c) (hd : decode (byOf md) pc = .ok (.invokespecial idx, 3)) (wl : (Cond.methodLink own idx (nmOf md')).before a0 Z = true) (cv : CalI Z a0 md' as.length) (hcal : Wk l Z M' md' 0 L' [] w 0 0 Q') (ho : M'.own = (nmOf md').cls) (hR : M'.rel en w T.heap) (ha : M'.rho en 0 = a)
    (hL : (argsToLocals (.ref 0 :: as).toArray (mxOf md')).toList = L') (hw : wfL L' = true) (ft : Fits md md' wt cu su cu' su') (hr : r.size = mxOf md) (hrest : (rest.map fun v => v.category).sum ≤ wt) :
    ∃ v T1 Lc w1, Stand p l e (rmOf md) s m args below meth c T1 (locs ++ Lc) cu' su' ∧ Q' v w1 ∧ M'.rel en w1 T1.heap ∧ M'.frm en T.heap T1.heap ∧ Fr (M'.lo en) Lc ∧ T1.heap.size = T.heap.size + exOf md' ∧ (∀ ρ x, v = some x → rv ρ x = x) ∧
      ∀ t, Steps p.tables e below (T1.setTop (mkF m (pc + 3) r (v.toList ++ rest))) t → Steps p.tables e below (T.setTop (mkF m pc r ((as.map (rv (M'.rho en))).reverse ++ .ref a :: rest))) t := by
  obtain ⟨v1, v2, v3, v4, v5, v6, v7, v8⟩ := cv
  obtain ⟨f1, f2, f3, f4, f5, f6, f7⟩ := ft
  subst f3 f4 ha
  obtain ⟨hx, hZ, hown, -, -, -, hby, hml⟩ := K
  have bk := backOf (s := s) (args := args) (p := p) (e := e) (below := below) (len := 3) (W := wt) (R := rmOf md) (Q := fun v hh Lc => ∃ w', Q' v w' ∧ M'.rel en w' hh ∧ M'.frm en T.heap hh ∧ Fr (M'.lo en) Lc ∧ hh.size = T.heap.size + exOf md' ∧ ∀ ρ x, v = some x → rv ρ x = x) (hcal.met v1 ho hR (.ref 0 :: as) hL hw []) hZ v5 v6 f1 f2
  have hlen : ∀ sig, parseMethodDescriptor (nmOf md').desc = some sig → (as.map (rv (M'.rho en))).length = sig.parameters.length := fun sig q => by rw [List.length_map]; exact v3 sig q
  rw [v8] at v5
  obtain ⟨v, _, ⟨T1, L1, k1, n1⟩, -, X1, ⟨Lc, hQ, l1, y1, z1⟩, st⟩ := X.specialBack hx (y := nmOf md') v7 hown (mvT hZ wl) (mvT hZ v4) (mvT hZ v5) v2 bk (g := mkF m pc r ((as.map (rv (M'.rho en))).reverse ++ .ref (M'.rho en 0) :: rest)) rfl (hr.trans hml.symm) (Steps.refl _) (a := M'.rho en 0) (argsL := as.map (rv (M'.rho en))) (rest := rest) hlen rfl (by show 2 * 0 + _ ≤ _; omega) (hb hby hd) (fun _ _ => ⟨rfl, rfl, f5, f6⟩)
  dsimp only [Pt.U, Pt.locs, Pt.cells, Pt.slots] at X1 l1 y1 z1 st hQ
  subst l1 y1 z1
  obtain ⟨w1, q1, q2, q3, q4, q5, q6⟩ := hQ
  exact ⟨v, T1, Lc, w1, X1, q1, q2, q3, q4, q5, q6, fun t q => st.trans q⟩
theorem coreS (X : Stand p l e (rmOf md) s m args below meth c T locs cu su) (K : Kn Z own md p s m meth c) (hd : decode (byOf md) pc = .ok (.invokestatic idx, 3)) (wl : (Cond.methodLink own idx (nmOf md')).before a0 Z = true) (cv : CalS Z a0 md' as.length) (hcal : Wk l Z M' md' 0 L' [] w 0 0 Q') (ho : M'.own = (nmOf md').cls) (hR : M'.rel en w T.heap)
    (hL : (argsToLocals as.toArray (mxOf md')).toList = L') (hw : wfL L' = true) (ft : Fits md md' wt cu su cu' su') (hr : r.size = mxOf md) (hrest : (rest.map fun v => v.category).sum ≤ wt) :
    ∃ v T1 Lc w1, Stand p l e (rmOf md) s m args below meth c T1 (locs ++ Lc) cu' su' ∧ Q' v w1 ∧ M'.rel en w1 T1.heap ∧ M'.frm en T.heap T1.heap ∧ Fr (M'.lo en) Lc ∧ T1.heap.size = T.heap.size + exOf md' ∧ (∀ ρ x, v = some x → rv ρ x = x) ∧
      ∀ t, Steps p.tables e below (T1.setTop (mkF m (pc + 3) r (v.toList ++ rest))) t → Steps p.tables e below (T.setTop (mkF m pc r ((as.map (rv (M'.rho en))).reverse ++ rest))) t := by
  obtain ⟨v1, v2, v3, v4, v5, v6⟩ := cv
  obtain ⟨f1, f2, f3, f4, f5, f6, f7⟩ := ft
  subst f3 f4
  obtain ⟨hx, hZ, hown, -, -, -, hby, hml⟩ := K
  have bk := backOf (s := s) (args := args) (p := p) (e := e) (below := below) (len := 3) (W := wt) (R := rmOf md) (Q := fun v hh Lc => ∃ w', Q' v w' ∧ M'.rel en w' hh ∧ M'.frm en T.heap hh ∧ Fr (M'.lo en) Lc ∧ hh.size = T.heap.size + exOf md' ∧ ∀ ρ x, v = some x → rv ρ x = x) (hcal.met v1 ho hR as hL hw []) hZ v5 v6 f1 f2
  have hlen : ∀ sig, parseMethodDescriptor (nmOf md').desc = some sig → (as.map (rv (M'.rho en))).length = sig.parameters.length := fun sig q => by rw [List.length_map]; exact v3 sig q
  obtain ⟨v, _, ⟨T1, L1, k1, n1⟩, -, X1, ⟨Lc, hQ, l1, y1, z1⟩, st⟩ := Jvm.LawKit.callS X hx (y := nmOf md') hown (mvT hZ wl) (mvT hZ v4) (mvT hZ v6) (mvT hZ v5) v2 bk (g := mkF m pc r ((as.map (rv (M'.rho en))).reverse ++ rest)) rfl (hr.trans hml.symm) (argsL := as.map (rv (M'.rho en))) (rest := rest) hlen rfl (by show 2 * 0 + _ ≤ _; omega) (hb hby hd) (fun _ _ => ⟨rfl, rfl, f5, f6⟩)
  dsimp only [Pt.U, Pt.locs, Pt.cells, Pt.slots] at X1 l1 y1 z1 st hQ
  subst l1 y1 z1
  obtain ⟨w1, q1, q2, q3, q4, q5, q6⟩ := hQ
  exact ⟨v, T1, Lc, w1, X1, q1, q2, q3, q4, q5, q6, fun t q => st t q⟩
end Core
theorem cat_map (ρ : Nat → Addr) (S : List Value) : ((S.map (rv ρ)).map fun v => v.category).sum = (S.map fun v => v.category).sum := by
  rw [List.map_map]; congr 1; exact List.map_congr_left fun v _ => rv_cat _ v
theorem res_map {ρ : Nat → Addr} {v : Option Value} (h : ∀ ρ x, v = some x → rv ρ x = x) (S : List Value) : (v.toList ++ S).map (rv ρ) = v.toList ++ S.map (rv ρ) := by
  cases v with
  | none => rfl
  | some x => simp [h ρ x rfl]
section CallsC
variable {l : Launch} {Z : State} {a0 : Array Value} {cd : CD} {md md' : MD} {pc pc' wt idx : Nat} {L L' : List Slot} {S stk as : List Value} {w : WO} {cu su cu' su' : Nat} {Q Q' : Option Value → WO → Prop}
/-- a method of the same object -/
theorem Wk.callC (as : List Value) (S : List Value) (hs : stk = as.reverse ++ .ref 0 :: S) (wl : (Cond.methodLink cd.1 idx (nmOf md')).before a0 Z = true) (cv : CalV Z a0 md' as.length) (hc : (nmOf md').cls = cd.1) (nr : noRef as = true) (hcal : Wk l Z (MoC Z cd) md' 0 L' [] w 0 0 Q') (hL' : (argsToLocals (.ref 0 :: as).toArray (mxOf md')).toList = L') (hw : wfL L' = true) (hl : L.length = mxOf md)
    (hwt : (S.map fun v => v.category).sum = wt) (ft : Fits md md' wt cu su cu' su') (hd : InsA md pc (.invokevirtual idx) 3 pc') (h : ∀ v w', Q' v w' → Wk l Z (MoC Z cd) md pc' L (v.toList ++ S) w' cu' su' Q) : Wk l Z (MoC Z cd) md pc L stk w cu su Q :=
  fun en p e s m args below meth c T locs r X K hz hF hR hL => by
  obtain ⟨hd, rfl⟩ := hd
  subst hs
  obtain ⟨v, T1, Lc, w1, X1, q1, q2, q3, q4, q5, q6, st⟩ := coreV (M' := MoC Z cd) (en := en) (r := r) (rest := S.map (rv ((MoC Z cd).rho en))) X K hd wl cv hcal hc.symm hR (by rw [hc]; exact hR.2.1) rfl hL' hw ft (hL.1.trans hl) (by rw [cat_map]; omega)
  have f7 := ft.2.2.1
  have f8 := ft.2.2.2.2.2.2
  have em : (as.reverse ++ .ref 0 :: S).map (rv ((MoC Z cd).rho en)) = (as.map (rv ((MoC Z cd).rho en))).reverse ++ .ref ((MoC Z cd).rho en 0) :: S.map (rv ((MoC Z cd).rho en)) := by rw [List.map_append, List.map_reverse]; rfl
  have D := h v w1 q1 en p e s m args below meth c T1 _ r X1 K (by omega) (hF.app q4) q2 hL
  rw [res_map q6] at D
  rw [em]
  exact D.pre (fun _ q => frmC.trans q3 q) st
end CallsC
section CallsS
variable {μ E : Type} {l : Launch} {Z : State} {a0 : Array Value} {M : Mode μ E} {md md' : MD} {pc pc' wt idx : Nat} {L L' : List Slot} {S stk as : List Value} {w : μ} {cu su cu' su' : Nat} {Q Q' : Option Value → μ → Prop}
/-- a static method, in the same mode -/
theorem Wk.callS (hM : ∀ en h1 h2 h3, M.frm en h1 h2 → M.frm en h2 h3 → M.frm en h1 h3) (as : List Value) (S : List Value) (hs : stk = as.reverse ++ S) (wl : (Cond.methodLink M.own idx (nmOf md')).before a0 Z = true) (cv : CalS Z a0 md' as.length) (hc : (nmOf md').cls = M.own) (hcal : Wk l Z M md' 0 L' [] w 0 0 Q') (hL' : (argsToLocals as.toArray (mxOf md')).toList = L') (hw : wfL L' = true) (hl : L.length = mxOf md)
    (hwt : (S.map fun v => v.category).sum = wt) (ft : Fits md md' wt cu su cu' su') (hd : InsA md pc (.invokestatic idx) 3 pc') (h : ∀ v w', Q' v w' → Wk l Z M md pc' L (v.toList ++ S) w' cu' su' Q) : Wk l Z M md pc L stk w cu su Q :=
  fun en p e s m args below meth c T locs r X K hz hF hR hL => by
  obtain ⟨hd, rfl⟩ := hd
  subst hs
  obtain ⟨v, T1, Lc, w1, X1, q1, q2, q3, q4, q5, q6, st⟩ := coreS (M' := M) (en := en) (r := r) (rest := S.map (rv (M.rho en))) X K hd wl cv hcal hc.symm hR hL' hw ft (hL.1.trans hl) (by rw [cat_map]; omega)
  have f7 := ft.2.2.1
  have f8 := ft.2.2.2.2.2.2
  have em : (as.reverse ++ S).map (rv (M.rho en)) = (as.map (rv (M.rho en))).reverse ++ S.map (rv (M.rho en)) := by rw [List.map_append, List.map_reverse]
  have D := h v w1 q1 en p e s m args below meth c T1 _ r X1 K (by omega) (hF.app q4) q2 hL
  rw [res_map q6] at D
  rw [em]
  exact D.pre (fun _ q => hM _ _ _ _ q3 q) st
end CallsS
/-! ## 5. The law's own level: a script of ints (or none) and some objects, made one behind the other -/
abbrev WL : Type := Int32 × (Int32 → Int32) × List WO
def w0 : WO := (0, fun _ => 0, fun _ => 0, fun _ _ => 0, fun _ _ => 0)
def rhoL (cd : CD) (en : Nat × Nat) : Nat → Addr
  | 0 => en.2
  | i + 1 => en.1 + i * (cd.2.2.2.length + 1)
def relL (Z : State) (cd : CD) (sc : Bool) (en : Nat × Nat) (w : WL) (h : Heap) : Prop :=
  (sc = true → en.2 < en.1 ∧ ¬ w.1 < 0 ∧ AtA Z h en.2 .int w.1 w.2.1 (fun _ => 0)) ∧ (∀ i x, w.2.2[i]? = some x → relC Z cd (en.1 + i * (cd.2.2.2.length + 1), en.1) x h) ∧ h.size = en.1 + (w.2.2.map fun x => x.1 + 1).sum
abbrev MoL (Z : State) (cd : CD) (own : String) (sc : Bool) : Mode WL (Nat × Nat) := (own, rhoL cd, fun en => en.1, relL Z cd sc, fun _ _ _ => True)
def allK (n : Nat) : List WO → Prop
  | [] => True
  | x :: t => x.1 = n ∧ allK n t
theorem allK.get {n : Nat} : (ws : List WO) → allK n ws → ∀ (i : Nat) (x : WO), ws[i]? = some x → x.1 = n
  | [], _, i, x, h => by simp at h
  | y :: t, h, i, x, e => by
    cases i with
    | zero => simp at e; rw [← e]; exact h.1
    | succ i => exact allK.get t h.2 i x (by simpa using e)
theorem allK.sum {n : Nat} : {ws : List WO} → allK n ws → (ws.map fun x => x.1 + 1).sum = ws.length * (n + 1)
  | [], _ => by simp
  | y :: t, h => by rw [List.map_cons, List.sum_cons, allK.sum (ws := t) h.2, h.1, List.length_cons, Nat.add_mul]; omega
theorem sum_set : (ws : List WO) → (i : Nat) → (x y : WO) → ws[i]? = some x → ((ws.set i y).map fun x => x.1 + 1).sum + x.1 = (ws.map fun x => x.1 + 1).sum + y.1
  | [], i, x, y, h => by simp at h
  | z :: t, 0, x, y, h => by simp at h; subst h; simp; omega
  | z :: t, i + 1, x, y, h => by have := sum_set t i x y (by simpa using h); simp only [List.set_cons_succ, List.map_cons, List.sum_cons]; omega
section Keep
variable {Z : State} {cd : CD} {en : Nat × Nat} {h h' : Heap} {w : WO}
theorem Fld.cells {a : Addr} {C n d : String} {v : Value} (H : Fld Z h a C n d v) (q : ∀ c, h[a]? = some c → h'[a]? = some c) : Fld Z h' a C n d v := by
  obtain ⟨cell, cf, k, i, f, h1, r⟩ := H; exact ⟨cell, cf, k, i, f, q _ h1, r⟩
theorem Exa.cells {a : Addr} {C : String} (H : Exa Z h a C) (q : ∀ c, h[a]? = some c → h'[a]? = some c) : Exa Z h' a C := by
  obtain ⟨cell, k, h1, r⟩ := H; exact ⟨cell, k, q _ h1, r⟩
theorem AtA.cells {b : Addr} {ty : FieldType} {n : Int32} {f : Int32 → Int32} {g : Int32 → Int64} (H : AtA Z h b ty n f g) (q : ∀ c, h[b]? = some c → h'[b]? = some c) : AtA Z h' b ty n f g := by
  obtain ⟨cl, h1, r⟩ := H; exact ⟨cl, ⟨q _ h1.1, h1.2⟩, r⟩
theorem relC.cells (okA : ∀ t ∈ cd.2.2.2, t.1 < cd.2.2.2.length) (hR : relC Z cd en w h) (hk : w.1 = cd.2.2.2.length) (q : ∀ x c, en.1 ≤ x → x ≤ en.1 + cd.2.2.2.length → h[x]? = some c → h'[x]? = some c) : relC Z cd en w h' := by
  obtain ⟨r1, r2, r3, r4, r5, r6⟩ := hR
  have q0 := fun c => q en.1 c (Nat.le_refl _) (Nat.le_add_right _ _)
  refine ⟨r1, Exa.cells r2 q0, fun t m => Fld.cells (r3 t m) q0, fun t m => Fld.cells (r4 t m) q0, fun t m => ⟨fun k => ⟨Fld.cells ((r5 t m).1 k).1 q0, AtA.cells ((r5 t m).1 k).2 fun c => q _ c (Nat.le_add_right _ _) (by have := okA t m; omega)⟩, fun k => Fld.cells ((r5 t m).2 k) q0⟩, fun k => absurd k (by omega)⟩
end Keep
theorem apart {N i j n x : Nat} (hne : j ≠ i) (h1 : n + j * (N + 1) ≤ x) (h2 : x ≤ n + j * (N + 1) + N) : x < n + i * (N + 1) ∨ n + i * (N + 1) + N < x := by
  rcases Nat.lt_or_gt_of_ne hne with q | q
  · left
    have := Nat.mul_le_mul_right (N + 1) (show j + 1 ≤ i from q)
    rw [Nat.add_mul] at this
    omega
  · right
    have := Nat.mul_le_mul_right (N + 1) (show i + 1 ≤ j from q)
    rw [Nat.add_mul] at this
    omega
/-- one object's walk, seen from the law's level -/
theorem relL.step {Z : State} {cd : CD} {sc : Bool} {en : Nat × Nat} {sl : Int32} {sv : Int32 → Int32} {ws : List WO} {h h' : Heap} {i : Nat} {x y : WO} (okA : ∀ t ∈ cd.2.2.2, t.1 < cd.2.2.2.length) (hR : relL Z cd sc en (sl, sv, ws) h) (hi : ws[i]? = some x) (hoth : ∀ j z, ws[j]? = some z → j ≠ i → z.1 = cd.2.2.2.length)
    (hy : relC Z cd (en.1 + i * (cd.2.2.2.length + 1), en.1) y h') (hf : frmC cd (en.1 + i * (cd.2.2.2.length + 1), en.1) h h') (hz : h'.size + x.1 = h.size + y.1) : relL Z cd sc en (sl, sv, ws.set i y) h' := by
  obtain ⟨r1, r2, r3⟩ := hR
  refine ⟨fun q => ?_, fun j z hj => ?_, ?_⟩
  · obtain ⟨a1, a2, a3⟩ := r1 q
    refine ⟨a1, a2, AtA.cells a3 fun c hc => hf.2 _ c hc (Or.inl ?_)⟩
    show en.2 < en.1 + i * (cd.2.2.2.length + 1)
    omega
  · have hj' : (ws.set i y)[j]? = some z := hj
    rw [List.getElem?_set] at hj'
    by_cases e : i = j
    · subst e
      have : i < ws.length := (List.getElem?_eq_some_iff.mp hi).1
      simp [this] at hj'
      subst hj'
      exact hy
    · rw [if_neg e] at hj'
      exact relC.cells okA (r2 j z hj') (hoth j z hj' (Ne.symm e)) fun a c h1 h2 hc => hf.2 a c hc (apart (Ne.symm e) h1 h2)
  · have s1 := sum_set ws i x y hi
    have s2 : h.size = en.1 + (ws.map fun x => x.1 + 1).sum := r3
    show h'.size = en.1 + ((ws.set i y).map fun x => x.1 + 1).sum
    omega
section StepsL
variable {l : Launch} {Z : State} {a0 : Array Value} {cd : CD} {own : String} {sc : Bool} {md md' : MD} {pc pc' wt idx : Nat} {L L' : List Slot} {S stk as : List Value} {sl : Int32} {sv : Int32 → Int32} {ws ws' : List WO} {cu su cu' su' : Nat} {Q : Option Value → WL → Prop} {Q' : Option Value → WO → Prop}
theorem Wk.lenL (hd : InsA md pc .arraylength 1 pc') (h : Wk l Z (MoL Z cd own true) md pc' L (.int sl :: S) (sl, sv, ws) cu su Q) : Wk l Z (MoL Z cd own true) md pc L (.ref 0 :: S) (sl, sv, ws) cu su Q :=
  fun en p e s m args below meth c T locs r X K hz hF hR hL => by
  obtain ⟨hd, rfl⟩ := hd
  obtain ⟨a1, a2, cl, g1, g2, g3⟩ := hR.1 rfl
  have e1 : cl.slots.size.toInt32 = sl := by rw [g2]; exact (back32 a2).1
  refine (h en p e s m args below meth c T locs r X K hz hF hR hL).pre (fun _ q => q) fun t q => X.arraylength K.1 g1.1 (State.isArrayOf_alike K.2.1.alike g1.2.1) (g := mkF m pc r (.ref en.2 :: S.map (rv (rhoL cd en)))) rfl rfl (hb K.by hd) _ (by rw [e1]; exact q)
theorem Wk.ialoadL {x : Int32} (h0 : ¬ x < 0) (h1 : x < sl) (hd : InsA md pc .iaload 1 pc') (h : Wk l Z (MoL Z cd own true) md pc' L (.int (sv x) :: S) (sl, sv, ws) cu su Q) : Wk l Z (MoL Z cd own true) md pc L (.int x :: .ref 0 :: S) (sl, sv, ws) cu su Q :=
  fun en p e s m args below meth c T locs r X K hz hF hR hL => by
  obtain ⟨hd, rfl⟩ := hd
  obtain ⟨a1, a2, cl, g1, g2, g3⟩ := hR.1 rfl
  exact (h en p e s m args below meth c T locs r X K hz hF hR hL).pre (fun _ q => q) fun t q => X.iaload K.1 (j := x) (v := .int (sv x)) g1.1 (State.isArrayOf_alike K.2.1.alike g1.2.1) g1.2.2 (in_of g2 h0 h1) (g3 x h0 h1) (g := mkF m pc r (.int x :: .ref en.2 :: S.map (rv (rhoL cd en)))) rfl rfl (hb K.by hd) _ q
theorem Wk.newL (ok : CO Z a0 cd) {kk i' : Nat} (wc : (Cond.classLink own idx cd.1).before a0 Z = true) (wi : (Cond.instantiable cd.1 kk).before a0 Z = true) (wz : (Cond.initialized cd.1).before a0 Z = true) (hd : InsA md pc (.new idx) 3 pc') (hall : allK cd.2.2.2.length ws) (hi : ws.length + 1 = i') (hws : ws ++ [w0] = ws') (hcu : cu + 1 = cu') (hsu : su + kk = su') (hc : cu' ≤ (rmOf md).cells) (hs : su' ≤ (rmOf md).slots)
    (h : Wk l Z (MoL Z cd own sc) md pc' L (.ref i' :: S) (sl, sv, ws') cu' su' Q) : Wk l Z (MoL Z cd own sc) md pc L S (sl, sv, ws) cu su Q :=
  fun en p e s m args below meth c T locs r X K hz hF hR hL => by
  obtain ⟨hd, rfl⟩ := hd
  subst hi hws hcu hsu
  obtain ⟨T1, h1, X1, e1, E1, A1, D1, -, st⟩ := newO X K.1 K.2.1 K.2.2.1 wc wi wz rfl (g := mkF m pc r (S.map (rv (rhoL cd en)))) rfl (hb K.by hd) hc hs
  subst e1
  obtain ⟨r1, r2, r3⟩ := hR
  have r3' : T.heap.size = en.1 + (ws.map fun x => x.1 + 1).sum := r3
  have sm := hall.sum
  have z1 := X1.heapSize
  have z2 : (T.heap.size : Nat) < T1.heap.size := A1.lt
  have ea : T.heap.size = en.1 + ws.length * (cd.2.2.2.length + 1) := by rw [r3', sm]
  have okp := ok.2.2.2.2
  obtain ⟨q1, q2, q3, q4, q5, q6, q7, q8⟩ := okp
  have rel1 : relL Z cd sc en (sl, sv, ws ++ [w0]) T1.heap := by
    refine ⟨fun q => ⟨(r1 q).1, (r1 q).2.1, (r1 q).2.2.ext E1⟩, fun j z hj => ?_, ?_⟩
    · have hj' : (ws ++ [w0])[j]? = some z := hj
      by_cases e : j < ws.length
      · rw [List.getElem?_append_left e] at hj'
        exact relC.cells (fun t m => (q8 t m).2.1) (r2 j z hj') (allK.get _ hall _ _ hj') fun a c _ _ hc => E1.2 a c hc
      · have e2 : j = ws.length := by
          have := (List.getElem?_eq_some_iff.mp hj').1
          simp at this; omega
        subst e2
        simp at hj'
        subst hj'
        rw [← ea]
        refine ⟨by show en.1 ≤ T.heap.size; omega, A1, fun t m => ?_, fun t m => ?_, fun t m => ⟨fun k => absurd k (Nat.not_lt_zero _), fun _ => ?_⟩, fun _ => by show T1.heap.size = T.heap.size + 1 + 0; omega⟩
        · rcases q7 t m with q | q
          · exact D1 (ok.2.1 t m) q
          · exact D1 (ok.2.1 t m) q
        · exact D1 (ok.2.2.1 t m) pJ
        · exact D1 (ok.2.2.2.1 t m) (q8 t m).1
    · show T1.heap.size = en.1 + ((ws ++ [w0]).map fun x => x.1 + 1).sum
      rw [List.map_append, List.sum_append]
      show T1.heap.size = en.1 + ((ws.map fun x => x.1 + 1).sum + 1)
      omega
  refine (h en p e s m args below meth c T1 locs r X1 K (by omega) hF rel1 hL).pre (fun _ _ => trivial) fun t q => st t ?_
  rw [ea]
  exact q
theorem Wk.callLC (ok : CO Z a0 cd) (as : List Value) (i : Nat) (S : List Value) {i' : Nat} {x : WO} (hi' : i + 1 = i') (hs : stk = as.reverse ++ .ref i' :: S) (hx : ws[i]? = some x) (hoth : allK cd.2.2.2.length (ws.eraseIdx i)) (wl : (Cond.methodLink own idx (nmOf md')).before a0 Z = true) (cv : CalV Z a0 md' as.length) (hc : (nmOf md').cls = cd.1) (nr : noRef as = true) (hcal : Wk l Z (MoC Z cd) md' 0 L' [] x 0 0 Q') (hL' : (argsToLocals (.ref 0 :: as).toArray (mxOf md')).toList = L') (hw : wfL L' = true) (hl : L.length = mxOf md)
    (hwt : (S.map fun v => v.category).sum = wt) (ft : Fits md md' wt cu su cu' su') (hd : InsA md pc (.invokevirtual idx) 3 pc') (hk : ∀ v y, Q' v y → y.1 = x.1 + exOf md') (h : ∀ v y, Q' v y → Wk l Z (MoL Z cd own sc) md pc' L (v.toList ++ S) (sl, sv, ws.set i y) cu' su' Q) : Wk l Z (MoL Z cd own sc) md pc L stk (sl, sv, ws) cu su Q :=
  fun en p e s m args below meth c T locs r X K hz hF hR hL => by
  obtain ⟨hd, rfl⟩ := hd
  subst hs hi'
  have rx := hR.2.1 i x hx
  obtain ⟨v, T1, Lc, w1, X1, p1, p2, p3, p4, p5, p6, st⟩ := coreV (M' := MoC Z cd) (en := (en.1 + i * (cd.2.2.2.length + 1), en.1)) (r := r) (rest := S.map (rv (rhoL cd en))) X K hd wl cv hcal hc.symm rx (by rw [hc]; exact rx.2.1) rfl hL' hw ft (hL.1.trans hl) (by rw [cat_map]; omega)
  have f7 := ft.2.2.1
  have f8 := ft.2.2.2.2.2.2
  have em : (as.reverse ++ .ref (i + 1) :: S).map (rv (rhoL cd en)) = (as.map (rv ((MoC Z cd).rho (en.1 + i * (cd.2.2.2.length + 1), en.1)))).reverse ++ .ref ((MoC Z cd).rho (en.1 + i * (cd.2.2.2.length + 1), en.1) 0) :: S.map (rv (rhoL cd en)) := by
    rw [List.map_append, List.map_reverse, noRef.map as nr, noRef.map as nr]; rfl
  have oth : ∀ j z, ws[j]? = some z → j ≠ i → z.1 = cd.2.2.2.length := by
    intro j z hj hne
    by_cases e : j < i
    · exact allK.get _ hoth j z (by rw [List.getElem?_eraseIdx]; simp [e, hj])
    · refine allK.get _ hoth (j - 1) z ?_
      rw [List.getElem?_eraseIdx, if_neg (by omega), show j - 1 + 1 = j by omega]; exact hj
  have hkk := hk v w1 p1
  have okA : ∀ t ∈ cd.2.2.2, t.1 < cd.2.2.2.length := fun t m => (ok.2.2.2.2.2.2.2.2.2.2.2 t m).2.1
  have D := h v w1 p1 en p e s m args below meth c T1 _ r X1 K (by omega) (hF.app p4) (relL.step okA hR hx oth p2 p3 (by omega)) hL
  rw [res_map p6] at D
  show Done _ _ _ _ _ _ _ _ _ _ _ _ _ _ (mkF m pc r ((as.reverse ++ .ref (i + 1) :: S).map (rv (rhoL cd en))))
  rw [em]
  exact D.pre (fun _ _ => trivial) st
theorem Wk.ctorL (ok : CO Z a0 cd) (as : List Value) (i : Nat) (S : List Value) {i' : Nat} {x : WO} (hi' : i + 1 = i') (hs : stk = as.reverse ++ .ref i' :: S) (hx : ws[i]? = some x) (hoth : allK cd.2.2.2.length (ws.eraseIdx i)) (wl : (Cond.methodLink own idx (nmOf md')).before a0 Z = true) (cv : CalI Z a0 md' as.length) (hc : (nmOf md').cls = cd.1) (nr : noRef as = true) (hcal : Wk l Z (MoC Z cd) md' 0 L' [] x 0 0 Q') (hL' : (argsToLocals (.ref 0 :: as).toArray (mxOf md')).toList = L') (hw : wfL L' = true) (hl : L.length = mxOf md)
    (hwt : (S.map fun v => v.category).sum = wt) (ft : Fits md md' wt cu su cu' su') (hd : InsA md pc (.invokespecial idx) 3 pc') (hk : ∀ v y, Q' v y → y.1 = x.1 + exOf md') (h : ∀ v y, Q' v y → Wk l Z (MoL Z cd own sc) md pc' L (v.toList ++ S) (sl, sv, ws.set i y) cu' su' Q) : Wk l Z (MoL Z cd own sc) md pc L stk (sl, sv, ws) cu su Q :=
  fun en p e s m args below meth c T locs r X K hz hF hR hL => by
  obtain ⟨hd, rfl⟩ := hd
  subst hs hi'
  have rx := hR.2.1 i x hx
  obtain ⟨v, T1, Lc, w1, X1, p1, p2, p3, p4, p5, p6, st⟩ := coreI (M' := MoC Z cd) (en := (en.1 + i * (cd.2.2.2.length + 1), en.1)) (r := r) (rest := S.map (rv (rhoL cd en))) X K hd wl cv hcal hc.symm rx rfl hL' hw ft (hL.1.trans hl) (by rw [cat_map]; omega)
  have f7 := ft.2.2.1
  have f8 := ft.2.2.2.2.2.2
  have em : (as.reverse ++ .ref (i + 1) :: S).map (rv (rhoL cd en)) = (as.map (rv ((MoC Z cd).rho (en.1 + i * (cd.2.2.2.length + 1), en.1)))).reverse ++ .ref ((MoC Z cd).rho (en.1 + i * (cd.2.2.2.length + 1), en.1) 0) :: S.map (rv (rhoL cd en)) := by
    rw [List.map_append, List.map_reverse, noRef.map as nr, noRef.map as nr]; rfl
  have oth : ∀ j z, ws[j]? = some z → j ≠ i → z.1 = cd.2.2.2.length := by
    intro j z hj hne
    by_cases e : j < i
    · exact allK.get _ hoth j z (by rw [List.getElem?_eraseIdx]; simp [e, hj])
    · refine allK.get _ hoth (j - 1) z ?_
      rw [List.getElem?_eraseIdx, if_neg (by omega), show j - 1 + 1 = j by omega]; exact hj
  have hkk := hk v w1 p1
  have okA : ∀ t ∈ cd.2.2.2, t.1 < cd.2.2.2.length := fun t m => (ok.2.2.2.2.2.2.2.2.2.2.2 t m).2.1
  have D := h v w1 p1 en p e s m args below meth c T1 _ r X1 K (by omega) (hF.app p4) (relL.step okA hR hx oth p2 p3 (by omega)) hL
  rw [res_map p6] at D
  show Done _ _ _ _ _ _ _ _ _ _ _ _ _ _ (mkF m pc r ((as.reverse ++ .ref (i + 1) :: S).map (rv (rhoL cd en))))
  rw [em]
  exact D.pre (fun _ _ => trivial) st
end StepsL
end Jvm.Own

namespace Jvm.Own
open Jvm Jvm.ClassFile Sem Op Lib Jvm.Free Jvm.Stand Jvm.LawKit Jvm.RoadKit
/-- the class's list of fields, looked at -/
def okB (cd : CD) : Bool :=
  cd.2.1.all (fun (t : Nat × String × String) => cd.2.1.all fun t' => if t.1 = t'.1 then decide (t = t') else t.2.1 != t'.2.1) && cd.2.2.1.all (fun (t : Nat × String) => cd.2.2.1.all fun t' => if t.1 = t'.1 then decide (t = t') else t.2 != t'.2) && cd.2.2.2.all (fun (t : Nat × String × String × FieldType × Int32) => cd.2.2.2.all fun t' => if t.1 = t'.1 then decide (t = t') else t.2.1 != t'.2.1) &&
  cd.2.1.all (fun (t : Nat × String × String) => cd.2.2.1.all fun (t' : Nat × String) => t.2.1 != t'.2) && cd.2.1.all (fun (t : Nat × String × String) => cd.2.2.2.all fun (t' : Nat × String × String × FieldType × Int32) => t.2.1 != t'.2.1) && cd.2.2.1.all (fun (t : Nat × String) => cd.2.2.2.all fun (t' : Nat × String × String × FieldType × Int32) => t.2 != t'.2.1) &&
  cd.2.1.all (fun (t : Nat × String × String) => decide (parseFieldDescriptor t.2.2 = some .int) || decide (parseFieldDescriptor t.2.2 = some .boolean)) &&
  cd.2.2.2.all (fun (t : Nat × String × String × FieldType × Int32) => decide (parseFieldDescriptor t.2.2.1 = some (.array t.2.2.2.1)) && decide (t.1 < cd.2.2.2.length) && (decide (t.2.2.2.1 = .int) || decide (t.2.2.2.1 = .boolean) || decide (t.2.2.2.1 = .long)) && !decide (t.2.2.2.2 < 0))
theorem pair_of {α : Type} {L : List α} {f : α → Nat} {g : α → String} [DecidableEq α] (h : L.all (fun t => L.all fun t' => if f t = f t' then decide (t = t') else g t != g t') = true) : ∀ t ∈ L, ∀ t' ∈ L, (f t = f t' → t = t') ∧ (f t ≠ f t' → g t ≠ g t') := by
  intro t m t' m'
  have q := List.all_eq_true.mp (List.all_eq_true.mp h t m) t' m'
  constructor
  · intro e; rw [if_pos e] at q; exact of_decide_eq_true q
  · intro e; rw [if_neg e] at q; simpa using q
theorem apart_of {α β : Type} {L : List α} {L' : List β} {g : α → String} {g' : β → String} (h : L.all (fun t => L'.all fun t' => g t != g' t') = true) : ∀ t ∈ L, ∀ t' ∈ L', g t ≠ g' t' := by
  intro t m t' m'
  have q := List.all_eq_true.mp (List.all_eq_true.mp h t m) t' m'
  simpa using q
theorem okC.of {cd : CD} (h : okB cd = true) : okC cd := by
  unfold okB at h
  simp only [Bool.and_eq_true] at h
  obtain ⟨⟨⟨⟨⟨⟨⟨h1, h2⟩, h3⟩, h4⟩, h5⟩, h6⟩, h7⟩, h8⟩ := h
  refine ⟨pair_of (L := cd.2.1) (f := fun (t : Nat × String × String) => t.1) (g := fun (t : Nat × String × String) => t.2.1) h1, pair_of (L := cd.2.2.1) (f := fun (t : Nat × String) => t.1) (g := fun (t : Nat × String) => t.2) h2, pair_of (L := cd.2.2.2) (f := fun (t : Nat × String × String × FieldType × Int32) => t.1) (g := fun (t : Nat × String × String × FieldType × Int32) => t.2.1) h3, apart_of (L := cd.2.1) (L' := cd.2.2.1) (g := fun (t : Nat × String × String) => t.2.1) (g' := fun (t : Nat × String) => t.2) h4, apart_of (L := cd.2.1) (L' := cd.2.2.2) (g := fun (t : Nat × String × String) => t.2.1) (g' := fun (t : Nat × String × String × FieldType × Int32) => t.2.1) h5, apart_of (L := cd.2.2.1) (L' := cd.2.2.2) (g := fun (t : Nat × String) => t.2) (g' := fun (t : Nat × String × String × FieldType × Int32) => t.2.1) h6, fun t m => ?_, fun t m => ?_⟩
  · have q := List.all_eq_true.mp h7 t m
    simpa using q
  · have q := List.all_eq_true.mp h8 t m
    simp only [Bool.and_eq_true, Bool.or_eq_true, decide_eq_true_eq, Bool.not_eq_true', decide_eq_false_iff_not] at q
    exact ⟨q.1.1.1, q.1.1.2, by rcases q.1.2 with (a | a) | a <;> simp [a], q.2⟩
theorem nar1 : nar .boolean 1 = 1 := by decide
theorem nar0 : nar .boolean 0 = 0 := by decide
theorem nar_nar (x : Int32) : nar .boolean (nar .boolean x) = nar .boolean x := by
  show (x &&& 1) &&& 1 = x &&& 1
  rw [Int32.and_assoc]; rfl
theorem ne_toInt {x n : Int32} (q : ¬ x = n) : x.toInt ≠ n.toInt := fun h => q (Int32.toInt_inj.mp h)
/-! ## 6. The same calls where the callee's answer is known as a term -/
section FunC
variable {l : Launch} {Z : State} {a0 : Array Value} {cd : CD} {md md' : MD} {pc pc' wt idx : Nat} {L L' : List Slot} {S stk as : List Value} {w w1 : WO} {cu su cu' su' : Nat} {Q : Option Value → WO → Prop} {x : Value}
theorem Wk.callF (as : List Value) (S : List Value) (wl : (Cond.methodLink cd.1 idx (nmOf md')).before a0 Z = true) (cv : CalV Z a0 md' as.length) (hd : InsA md pc (.invokevirtual idx) 3 pc') (hcal : Wk l Z (MoC Z cd) md' 0 L' [] w 0 0 (fun v w' => v = some x ∧ w' = w1)) (ft : Fits md md' wt cu su cu' su') (hs : stk = as.reverse ++ .ref 0 :: S) (hc : (nmOf md').cls = cd.1) (nr : noRef as = true) (hL' : (argsToLocals (.ref 0 :: as).toArray (mxOf md')).toList = L') (hw : wfL L' = true) (hl : L.length = mxOf md)
    (hwt : (S.map fun v => v.category).sum = wt) (h : Wk l Z (MoC Z cd) md pc' L (x :: S) w1 cu' su' Q) : Wk l Z (MoC Z cd) md pc L stk w cu su Q :=
  Wk.callC as S hs wl cv hc nr hcal hL' hw hl hwt ft hd fun v w' q => by obtain ⟨rfl, rfl⟩ := q; exact h
theorem Wk.callU (as : List Value) (S : List Value) (wl : (Cond.methodLink cd.1 idx (nmOf md')).before a0 Z = true) (cv : CalV Z a0 md' as.length) (hd : InsA md pc (.invokevirtual idx) 3 pc') (hcal : Wk l Z (MoC Z cd) md' 0 L' [] w 0 0 (fun v w' => v = none ∧ w' = w1)) (ft : Fits md md' wt cu su cu' su') (hs : stk = as.reverse ++ .ref 0 :: S) (hc : (nmOf md').cls = cd.1) (nr : noRef as = true) (hL' : (argsToLocals (.ref 0 :: as).toArray (mxOf md')).toList = L') (hw : wfL L' = true) (hl : L.length = mxOf md)
    (hwt : (S.map fun v => v.category).sum = wt) (h : Wk l Z (MoC Z cd) md pc' L S w1 cu' su' Q) : Wk l Z (MoC Z cd) md pc L stk w cu su Q :=
  Wk.callC as S hs wl cv hc nr hcal hL' hw hl hwt ft hd fun v w' q => by obtain ⟨rfl, rfl⟩ := q; exact h
end FunC
section FunS
variable {μ E : Type} {l : Launch} {Z : State} {a0 : Array Value} {M : Mode μ E} {md md' : MD} {pc pc' wt idx : Nat} {L L' : List Slot} {S stk as : List Value} {w w1 : μ} {cu su cu' su' : Nat} {Q : Option Value → μ → Prop} {x : Value}
theorem Wk.callSF (hM : ∀ en h1 h2 h3, M.frm en h1 h2 → M.frm en h2 h3 → M.frm en h1 h3) (as : List Value) (S : List Value) (wl : (Cond.methodLink M.own idx (nmOf md')).before a0 Z = true) (cv : CalS Z a0 md' as.length) (hd : InsA md pc (.invokestatic idx) 3 pc') (hcal : Wk l Z M md' 0 L' [] w 0 0 (fun v w' => v = some x ∧ w' = w1)) (ft : Fits md md' wt cu su cu' su') (hs : stk = as.reverse ++ S) (hc : (nmOf md').cls = M.own) (hL' : (argsToLocals as.toArray (mxOf md')).toList = L') (hw : wfL L' = true) (hl : L.length = mxOf md)
    (hwt : (S.map fun v => v.category).sum = wt) (h : Wk l Z M md pc' L (x :: S) w1 cu' su' Q) : Wk l Z M md pc L stk w cu su Q :=
  Wk.callS hM as S hs wl cv hc hcal hL' hw hl hwt ft hd fun v w' q => by obtain ⟨rfl, rfl⟩ := q; exact h
theorem Wk.callSU (hM : ∀ en h1 h2 h3, M.frm en h1 h2 → M.frm en h2 h3 → M.frm en h1 h3) (as : List Value) (S : List Value) (wl : (Cond.methodLink M.own idx (nmOf md')).before a0 Z = true) (cv : CalS Z a0 md' as.length) (hd : InsA md pc (.invokestatic idx) 3 pc') (hcal : Wk l Z M md' 0 L' [] w 0 0 (fun v w' => v = none ∧ w' = w1)) (ft : Fits md md' wt cu su cu' su') (hs : stk = as.reverse ++ S) (hc : (nmOf md').cls = M.own) (hL' : (argsToLocals as.toArray (mxOf md')).toList = L') (hw : wfL L' = true) (hl : L.length = mxOf md)
    (hwt : (S.map fun v => v.category).sum = wt) (h : Wk l Z M md pc' L S w1 cu' su' Q) : Wk l Z M md pc L stk w cu su Q :=
  Wk.callS hM as S hs wl cv hc hcal hL' hw hl hwt ft hd fun v w' q => by obtain ⟨rfl, rfl⟩ := q; exact h
end FunS
section FunL
variable {l : Launch} {Z : State} {a0 : Array Value} {cd : CD} {own : String} {sc : Bool} {md md' : MD} {pc pc' wt idx : Nat} {L L' : List Slot} {S stk as : List Value} {sl : Int32} {sv : Int32 → Int32} {ws ws' : List WO} {cu su cu' su' : Nat} {Q : Option Value → WL → Prop} {v : Value} {y : WO}
theorem Wk.callLF (ok : CO Z a0 cd) (as : List Value) (i : Nat) (S : List Value) {i' : Nat} {x : WO} (wl : (Cond.methodLink own idx (nmOf md')).before a0 Z = true) (cv : CalV Z a0 md' as.length) (hd : InsA md pc (.invokevirtual idx) 3 pc') (hcal : Wk l Z (MoC Z cd) md' 0 L' [] x 0 0 (fun v' w' => v' = some v ∧ w' = y)) (ft : Fits md md' wt cu su cu' su') (hoth : allK cd.2.2.2.length (ws.eraseIdx i)) (hi' : i + 1 = i') (hs : stk = as.reverse ++ .ref i' :: S) (hx : ws[i]? = some x) (hc : (nmOf md').cls = cd.1) (nr : noRef as = true) (hL' : (argsToLocals (.ref 0 :: as).toArray (mxOf md')).toList = L') (hw : wfL L' = true) (hl : L.length = mxOf md)
    (hwt : (S.map fun v => v.category).sum = wt) (hk : y.1 = x.1 + exOf md') (hws : ws.set i y = ws') (h : Wk l Z (MoL Z cd own sc) md pc' L (v :: S) (sl, sv, ws') cu' su' Q) : Wk l Z (MoL Z cd own sc) md pc L stk (sl, sv, ws) cu su Q :=
  Wk.callLC ok as i S hi' hs hx hoth wl cv hc nr hcal hL' hw hl hwt ft hd (fun v' y' q => by obtain ⟨rfl, rfl⟩ := q; exact hk) fun v' y' q => by obtain ⟨rfl, rfl⟩ := q; subst hws; exact h
theorem Wk.callLU (ok : CO Z a0 cd) (as : List Value) (i : Nat) (S : List Value) {i' : Nat} {x : WO} (wl : (Cond.methodLink own idx (nmOf md')).before a0 Z = true) (cv : CalV Z a0 md' as.length) (hd : InsA md pc (.invokevirtual idx) 3 pc') (hcal : Wk l Z (MoC Z cd) md' 0 L' [] x 0 0 (fun v' w' => v' = none ∧ w' = y)) (ft : Fits md md' wt cu su cu' su') (hoth : allK cd.2.2.2.length (ws.eraseIdx i)) (hi' : i + 1 = i') (hs : stk = as.reverse ++ .ref i' :: S) (hx : ws[i]? = some x) (hc : (nmOf md').cls = cd.1) (nr : noRef as = true) (hL' : (argsToLocals (.ref 0 :: as).toArray (mxOf md')).toList = L') (hw : wfL L' = true) (hl : L.length = mxOf md)
    (hwt : (S.map fun v => v.category).sum = wt) (hk : y.1 = x.1 + exOf md') (hws : ws.set i y = ws') (h : Wk l Z (MoL Z cd own sc) md pc' L S (sl, sv, ws') cu' su' Q) : Wk l Z (MoL Z cd own sc) md pc L stk (sl, sv, ws) cu su Q :=
  Wk.callLC ok as i S hi' hs hx hoth wl cv hc nr hcal hL' hw hl hwt ft hd (fun v' y' q => by obtain ⟨rfl, rfl⟩ := q; exact hk) fun v' y' q => by obtain ⟨rfl, rfl⟩ := q; subst hws; exact h
theorem Wk.ctorLU (ok : CO Z a0 cd) (as : List Value) (i : Nat) (S : List Value) {i' : Nat} {x : WO} (wl : (Cond.methodLink own idx (nmOf md')).before a0 Z = true) (cv : CalI Z a0 md' as.length) (hd : InsA md pc (.invokespecial idx) 3 pc') (hcal : Wk l Z (MoC Z cd) md' 0 L' [] x 0 0 (fun v' w' => v' = none ∧ w' = y)) (ft : Fits md md' wt cu su cu' su') (hoth : allK cd.2.2.2.length (ws.eraseIdx i)) (hi' : i + 1 = i') (hs : stk = as.reverse ++ .ref i' :: S) (hx : ws[i]? = some x) (hc : (nmOf md').cls = cd.1) (nr : noRef as = true) (hL' : (argsToLocals (.ref 0 :: as).toArray (mxOf md')).toList = L') (hw : wfL L' = true) (hl : L.length = mxOf md)
    (hwt : (S.map fun v => v.category).sum = wt) (hk : y.1 = x.1 + exOf md') (hws : ws.set i y = ws') (h : Wk l Z (MoL Z cd own sc) md pc' L S (sl, sv, ws') cu' su' Q) : Wk l Z (MoL Z cd own sc) md pc L stk (sl, sv, ws) cu su Q :=
  Wk.ctorL ok as i S hi' hs hx hoth wl cv hc nr hcal hL' hw hl hwt ft hd (fun v' y' q => by obtain ⟨rfl, rfl⟩ := q; exact hk) fun v' y' q => by obtain ⟨rfl, rfl⟩ := q; subst hws; exact h
end FunL
end Jvm.Own

namespace Jvm.Own
open Jvm
/-! ## 7. Plain helpers -/
theorem lt_i {x y : Int32} : x < y ↔ x.toInt < y.toInt := Int32.lt_iff_toInt_lt
theorem add_toInt {x y : Int32} (h1 : -2147483648 ≤ x.toInt + y.toInt) (h2 : x.toInt + y.toInt < 2147483648) : (x + y).toInt = x.toInt + y.toInt := by
  rw [Int32.toInt_add]
  exact Int.bmod_eq_of_le (by omega) (by omega)
theorem sub_toInt {x y : Int32} (h1 : -2147483648 ≤ x.toInt - y.toInt) (h2 : x.toInt - y.toInt < 2147483648) : (x - y).toInt = x.toInt - y.toInt := by
  rw [Int32.toInt_sub]
  exact Int.bmod_eq_of_le (by omega) (by omega)
theorem succ_toInt {i n : Int32} (h : i < n) : (i + 1).toInt = i.toInt + 1 := by
  have h1 := lt_i.mp h
  have h2 := Int32.toInt_lt n
  have h3 := Int32.le_toInt i
  exact add_toInt (x := i) (y := 1) (by show -2147483648 ≤ i.toInt + 1; omega) (by show i.toInt + 1 < 2147483648; omega)
/-- a loop that counts up to n: backwards from its end -/
theorem loopUp {n : Int32} {P : Int32 → Prop} (hend : P n) (hstep : ∀ i, ¬ i < 0 → i < n → P (i + 1) → P i) : ∀ i, ¬ i < 0 → ¬ n < i → P i := by
  have key : ∀ (k : Nat) (i : Int32), ¬ i < 0 → ¬ n < i → (n.toInt - i.toInt).toNat = k → P i := by
    intro k
    induction k with
    | zero =>
      intro i h0 h1 hk
      have e : i = n := by
        rw [lt_i] at h1
        exact Int32.toInt_inj.mp (by omega)
      subst e; exact hend
    | succ k ih =>
      intro i h0 h1 hk
      rw [lt_i] at h1
      have hlt : i < n := lt_i.mpr (by omega)
      have hs := succ_toInt hlt
      have h0' : ¬ i.toInt < 0 := fun q => h0 (lt_i.mpr q)
      refine hstep i h0 hlt (ih (i + 1) ?_ ?_ ?_)
      · rw [lt_i, hs]; show ¬ i.toInt + 1 < 0; omega
      · rw [lt_i, hs]; omega
      · rw [hs]; omega
  exact fun i h0 h1 => key _ i h0 h1 rfl
/-- the first n places hold c -/
def fill {α : Type} (f : Int32 → α) (n : Int32) (c : α) : Int32 → α := fun x => if ¬ x < 0 ∧ x < n then c else f x
theorem fill_zero {α : Type} (f : Int32 → α) (c : α) : fill f 0 c = f := by
  funext x; exact if_neg fun q => q.1 q.2
theorem fill_succ {α : Type} (f : Int32 → α) (c : α) {i n : Int32} (h0 : ¬ i < 0) (h : i < n) : ups (fill f i c) i c = fill f (i + 1) c := by
  funext x
  have hs := succ_toInt h
  have h0' : ¬ i.toInt < 0 := fun q => h0 (lt_i.mpr q)
  unfold ups fill
  by_cases e : x = i
  · rw [if_pos e, if_pos]
    subst e
    exact ⟨h0, lt_i.mpr (by omega)⟩
  · rw [if_neg e]
    have e' : x.toInt ≠ i.toInt := fun q => e (Int32.toInt_inj.mp q)
    by_cases q : ¬ x < 0 ∧ x < i
    · rw [if_pos q, if_pos ⟨q.1, lt_i.mpr (by have := lt_i.mp q.2; omega)⟩]
    · rw [if_neg q, if_neg]
      rintro ⟨a, b⟩
      exact q ⟨a, lt_i.mpr (by have := lt_i.mp b; omega)⟩
theorem fill_in {α : Type} (f : Int32 → α) (c : α) {x n : Int32} (h0 : ¬ x < 0) (h : x < n) : fill f n c x = c := if_pos ⟨h0, h⟩
theorem ups_self {κ α : Type} [DecidableEq κ] (f : κ → α) (i : κ) : ups f i (f i) = f := by
  funext k; unfold ups; by_cases e : k = i
  · rw [if_pos e, e]
  · rw [if_neg e]
theorem ups_upd {κ α : Type} [DecidableEq κ] (f : κ → α) (i : κ) (x y : α) : ups (ups f i x) i y = ups f i y := by
  funext k; unfold ups; by_cases e : k = i
  · rw [if_pos e, if_pos e]
  · rw [if_neg e, if_neg e, if_neg e]
theorem ups_comm {κ α : Type} [DecidableEq κ] (f : κ → α) {i j : κ} (x y : α) (h : i ≠ j) : ups (ups f i x) j y = ups (ups f j y) i x := by
  funext k; unfold ups; by_cases e : k = i
  · have : k ≠ j := fun q => h (e.symm.trans q)
    rw [if_neg this, if_pos e, if_pos e]
  · by_cases e2 : k = j
    · rw [if_pos e2, if_neg e, if_pos e2]
    · rw [if_neg e2, if_neg e, if_neg e, if_neg e2]
end Jvm.Own

namespace Jvm.Own
open Jvm Jvm.Free
/-! ## 8. Bits -/
theorem toNat_toInt (x : Int32) : (x.toBitVec.toNat : Int) = x.toInt % 4294967296 := by
  have h1 : x.toInt = x.toBitVec.toInt := rfl
  rw [h1, BitVec.toInt_eq_toNat_bmod]
  have h2 := x.toBitVec.isLt
  have h3 := Int.bmod_emod (x := (x.toBitVec.toNat : Int)) (m := 2 ^ 32)
  have h4 : ((2 ^ 32 : Nat) : Int) = 4294967296 := rfl
  rw [h4] at h3
  rw [h3]; omega
theorem and_mask (x m : Int32) (k : Nat) (hk : k < 31) (hm : m.toBitVec.toNat = 2 ^ k - 1) : (x &&& m).toInt = x.toInt % ((2 ^ k : Nat) : Int) := by
  have h1 : (x &&& m).toInt = (x.toBitVec &&& m.toBitVec).toInt := rfl
  have h2 : (x.toBitVec &&& m.toBitVec).toNat = x.toBitVec.toNat % 2 ^ k := by rw [BitVec.toNat_and, hm, Nat.and_two_pow_sub_one_eq_mod]
  have h3 : (2 ^ k : Nat) ≤ 2 ^ 30 := Nat.pow_le_pow_right (by decide) (by omega)
  have h4 : x.toBitVec.toNat % 2 ^ k < 2 ^ k := Nat.mod_lt _ (Nat.two_pow_pos k)
  have h5 : (2 ^ k : Nat) ∣ 4294967296 := ⟨2 ^ (32 - k), by rw [← Nat.pow_add]; have : k + (32 - k) = 32 := by omega
                                                            rw [this]⟩
  rw [h1, BitVec.toInt_eq_toNat_of_lt (by rw [h2]; omega), h2, Int.natCast_emod, toNat_toInt]
  exact Int.emod_emod_of_dvd _ (Int.natCast_dvd_natCast.mpr h5)
theorem sar_toInt (x y : Int32) (k : Nat) (hy : y.toBitVec.smod 32#32 = BitVec.ofNat 32 k) (hk : k < 32) : (x >>> y).toInt = x.toInt / ((2 ^ k : Nat) : Int) := by
  have h1 : (x >>> y).toInt = (x.toBitVec.sshiftRight' (y.toBitVec.smod 32#32)).toInt := rfl
  rw [h1, hy, BitVec.sshiftRight_eq', BitVec.toInt_sshiftRight, BitVec.toNat_ofNat, Nat.mod_eq_of_lt (by omega), Int.shiftRight_eq_div_pow]
  rfl
theorem ushr_pos (x y : Int32) (k : Nat) (hy : (y &&& 31).toBitVec.toNat = k) (hx : ¬ x < 0) : (XT.ushr x y).toInt = x.toInt / ((2 ^ k : Nat) : Int) := by
  have hx' : 0 ≤ x.toInt := by rw [lt_i] at hx; have z : (0 : Int32).toInt = 0 := rfl; omega
  have h0 : (x.toBitVec.toNat : Int) = x.toInt := by rw [toNat_toInt]; have := Int32.toInt_lt x; omega
  have hy' : k < 32 := by
    rw [← hy]
    have : (y &&& 31).toBitVec.toNat = y.toBitVec.toNat % 2 ^ 5 := by
      show (y.toBitVec &&& 31#32).toNat = _
      rw [BitVec.toNat_and]; exact Nat.and_two_pow_sub_one_eq_mod _ 5
    omega
  have h1 : (XT.ushr x y).toBitVec = x.toBitVec >>> k := by
    show x.toBitVec >>> ((y &&& 31).toBitVec % 32#32) = _
    rw [BitVec.ushiftRight_eq', BitVec.toNat_umod, hy]
    show x.toBitVec >>> (k % 32) = _
    rw [Nat.mod_eq_of_lt hy']
  have h2 : (x.toBitVec >>> k).toNat = x.toBitVec.toNat / 2 ^ k := by rw [BitVec.toNat_ushiftRight, Nat.shiftRight_eq_div_pow]
  have h3 : (XT.ushr x y).toInt = (x.toBitVec >>> k).toInt := by rw [← h1]; rfl
  have h4 : x.toBitVec.toNat / 2 ^ k ≤ x.toBitVec.toNat := Nat.div_le_self _ _
  rw [h3, BitVec.toInt_eq_toNat_of_lt (by rw [h2]; have := Int32.toInt_lt x; omega), h2, Int.natCast_ediv, h0]
end Jvm.Own
namespace Jvm.Own
open Jvm Jvm.ClassFile Sem Op Lib Jvm.Free Jvm.Stand Jvm.LawKit Jvm.RoadKit
/-! ## 9. An array of ints that the law is given -/
theorem script_at {s : State} {sa : Addr} {N : Int32} (na : (Cond.arrayOf (.arg 0) .int).value #[.ref sa] s none s [] = some true)
    (hr : (Cond.all (.arg 0) (.isInt (.elem (.arg 0) (.index 0)))).value #[.ref sa] s none s [] = some true)
    (nl : (Cond.le (.length (.arg 0)) (.int N)).value #[.ref sa] s none s [] = some true) :
    ∃ (sl : Int32) (sv : Int32 → Int32), sa < s.heap.size ∧ ¬ sl < 0 ∧ ¬ N < sl ∧ AtA s s.heap sa .int sl sv (fun _ => 0) := by
  have ea : ∀ idx, (Term.arg 0).eval #[Value.ref sa] s none idx s = some (.ref sa) := fun _ => rfl
  obtain ⟨cl, hcl⟩ := Arr.start (ea []) na
  have h1 : sa < s.heap.size := (Array.getElem?_eq_some_iff.mp hcl.1).1
  have hat : s.arrayAt? sa = some cl := hcl.fin (Vm.Alike.refl _)
  obtain ⟨x, y, ex, ey, -, -⟩ := cmp_v (.inr (.inr nl))
  have hsz : cl.slots.size < 2 ^ 31 := by
    apply Classical.byContradiction; intro hn
    have hn' : ¬ cl.slots.size < 2147483648 := hn
    simp [Term.eval, hat, hn', ea] at ex
  have e1 : (Term.length (.arg 0)).eval #[Value.ref sa] s none [] s = some (.int cl.slots.size.toInt32) := len_f (ea []) hat hsz
  have e2 : (Term.int N).eval #[Value.ref sa] s none [] s = some (.int N) := Term.int_eval N
  have hle : cl.slots.size.toInt32 ≤ N := by
    have := nl
    simp [Cond.value, e1, e2] at this
    exact this
  have hnn : ¬ cl.slots.size.toInt32 < 0 := Int32.ofNat_not_neg hsz
  have hbk : cl.slots.size.toInt32.toNatClampNeg = cl.slots.size := Example.SumArray.toNatClampNeg_ofNat hsz
  refine ⟨cl.slots.size.toInt32, fun x => match cl.slots[x.toNatClampNeg]? with | some (.int y) => y | _ => 0, h1, hnn, Int32.not_lt.mpr hle, cl, hcl, hbk.symm, fun x h0 hx => ?_⟩
  have hlt : x.toNatClampNeg < cl.slots.size := by have := clamp_lt h0 hx; rw [hbk] at this; exact this
  obtain ⟨v, hv⟩ := is_v (Cond.all_elim (ea []) hat hr _ hlt)
  rw [elem_f (ea _) (idx_at h0) hat h0] at hv
  show cl.slots[x.toNatClampNeg]? = some (Value.int (match cl.slots[x.toNatClampNeg]? with | some (.int y) => y | _ => 0))
  simp only [hv]
end Jvm.Own
namespace Jvm.Pilot.@@N@@
open Jvm Jvm.ClassFile Sem Op Lib Jvm.Free Jvm.Stand Jvm.LawKit Jvm.RoadKit Bundle Jvm.Own Jvm.Pilot.@@N@@.Jvm.D
def OK (Z : State) (a0 : Array Value) : Prop := ∀ d ∈ tables_1, d.before a0 Z = true
theorem OK.w {Z : State} {a0 : Array Value} (H : OK Z a0) (i : Nat) {d : Jvm.Cond} (h : tables_1[i]? = some d) : d.before a0 Z = true := H _ (List.mem_of_getElem? h)
abbrev cdC : CD := ("CyclicExecutive", [(0, "maxTasks", "I"), (1, "maxHyper", "I"), (2, "count", "I"), (3, "hyper", "I"), (4, "present", "Z"), (5, "frame", "I"), (6, "miss", "I"), (7, "now", "I"), (8, "pos", "I")], [], [(0, "per", "[I", .int, 8), (1, "exe", "[I", .int, 8), (2, "dl", "[I", .int, 8), (3, "runCnt", "[I", .int, 8), (4, "tickTask", "[I", .int, 128), (5, "tickJob", "[I", .int, 128), (6, "rem", "[I", .int, 1024)])
theorem okcC : okC cdC := okC.of (by decide +kernel)
theorem mI_maxTasks : (0, "maxTasks", "I") ∈ cdC.2.1 := List.mem_of_getElem? (i := 0) rfl
theorem mI_maxHyper : (1, "maxHyper", "I") ∈ cdC.2.1 := List.mem_of_getElem? (i := 1) rfl
theorem mI_count : (2, "count", "I") ∈ cdC.2.1 := List.mem_of_getElem? (i := 2) rfl
theorem mI_hyper : (3, "hyper", "I") ∈ cdC.2.1 := List.mem_of_getElem? (i := 3) rfl
theorem mI_present : (4, "present", "Z") ∈ cdC.2.1 := List.mem_of_getElem? (i := 4) rfl
theorem mI_frame : (5, "frame", "I") ∈ cdC.2.1 := List.mem_of_getElem? (i := 5) rfl
theorem mI_miss : (6, "miss", "I") ∈ cdC.2.1 := List.mem_of_getElem? (i := 6) rfl
theorem mI_now : (7, "now", "I") ∈ cdC.2.1 := List.mem_of_getElem? (i := 7) rfl
theorem mI_pos : (8, "pos", "I") ∈ cdC.2.1 := List.mem_of_getElem? (i := 8) rfl
theorem mA_per : (0, "per", "[I", FieldType.int, (8 : Int32)) ∈ cdC.2.2.2 := List.mem_of_getElem? (i := 0) rfl
theorem mA_exe : (1, "exe", "[I", FieldType.int, (8 : Int32)) ∈ cdC.2.2.2 := List.mem_of_getElem? (i := 1) rfl
theorem mA_dl : (2, "dl", "[I", FieldType.int, (8 : Int32)) ∈ cdC.2.2.2 := List.mem_of_getElem? (i := 2) rfl
theorem mA_runCnt : (3, "runCnt", "[I", FieldType.int, (8 : Int32)) ∈ cdC.2.2.2 := List.mem_of_getElem? (i := 3) rfl
theorem mA_tickTask : (4, "tickTask", "[I", FieldType.int, (128 : Int32)) ∈ cdC.2.2.2 := List.mem_of_getElem? (i := 4) rfl
theorem mA_tickJob : (5, "tickJob", "[I", FieldType.int, (128 : Int32)) ∈ cdC.2.2.2 := List.mem_of_getElem? (i := 5) rfl
theorem mA_rem : (6, "rem", "[I", FieldType.int, (1024 : Int32)) ∈ cdC.2.2.2 := List.mem_of_getElem? (i := 6) rfl
theorem wf_per {Z : State} {a0 : Array Value} (H : OK Z a0) : (Cond.fieldLink "CyclicExecutive" 7 "CyclicExecutive" "per" "[I").before a0 Z = true := H.w 10 rfl
theorem wf_exe {Z : State} {a0 : Array Value} (H : OK Z a0) : (Cond.fieldLink "CyclicExecutive" 13 "CyclicExecutive" "exe" "[I").before a0 Z = true := H.w 12 rfl
theorem wf_dl {Z : State} {a0 : Array Value} (H : OK Z a0) : (Cond.fieldLink "CyclicExecutive" 16 "CyclicExecutive" "dl" "[I").before a0 Z = true := H.w 14 rfl
theorem wf_runCnt {Z : State} {a0 : Array Value} (H : OK Z a0) : (Cond.fieldLink "CyclicExecutive" 19 "CyclicExecutive" "runCnt" "[I").before a0 Z = true := H.w 16 rfl
theorem wf_tickTask {Z : State} {a0 : Array Value} (H : OK Z a0) : (Cond.fieldLink "CyclicExecutive" 22 "CyclicExecutive" "tickTask" "[I").before a0 Z = true := H.w 18 rfl
theorem wf_tickJob {Z : State} {a0 : Array Value} (H : OK Z a0) : (Cond.fieldLink "CyclicExecutive" 25 "CyclicExecutive" "tickJob" "[I").before a0 Z = true := H.w 20 rfl
theorem wf_rem {Z : State} {a0 : Array Value} (H : OK Z a0) : (Cond.fieldLink "CyclicExecutive" 28 "CyclicExecutive" "rem" "[I").before a0 Z = true := H.w 22 rfl
theorem wf_maxTasks {Z : State} {a0 : Array Value} (H : OK Z a0) : (Cond.fieldLink "CyclicExecutive" 35 "CyclicExecutive" "maxTasks" "I").before a0 Z = true := H.w 28 rfl
theorem wf_maxHyper {Z : State} {a0 : Array Value} (H : OK Z a0) : (Cond.fieldLink "CyclicExecutive" 39 "CyclicExecutive" "maxHyper" "I").before a0 Z = true := H.w 30 rfl
theorem wf_count {Z : State} {a0 : Array Value} (H : OK Z a0) : (Cond.fieldLink "CyclicExecutive" 42 "CyclicExecutive" "count" "I").before a0 Z = true := H.w 32 rfl
theorem wf_hyper {Z : State} {a0 : Array Value} (H : OK Z a0) : (Cond.fieldLink "CyclicExecutive" 45 "CyclicExecutive" "hyper" "I").before a0 Z = true := H.w 34 rfl
theorem wf_present {Z : State} {a0 : Array Value} (H : OK Z a0) : (Cond.fieldLink "CyclicExecutive" 48 "CyclicExecutive" "present" "Z").before a0 Z = true := H.w 36 rfl
theorem wf_frame {Z : State} {a0 : Array Value} (H : OK Z a0) : (Cond.fieldLink "CyclicExecutive" 52 "CyclicExecutive" "frame" "I").before a0 Z = true := H.w 38 rfl
theorem wf_miss {Z : State} {a0 : Array Value} (H : OK Z a0) : (Cond.fieldLink "CyclicExecutive" 55 "CyclicExecutive" "miss" "I").before a0 Z = true := H.w 40 rfl
theorem wf_now {Z : State} {a0 : Array Value} (H : OK Z a0) : (Cond.fieldLink "CyclicExecutive" 58 "CyclicExecutive" "now" "I").before a0 Z = true := H.w 42 rfl
theorem wf_pos {Z : State} {a0 : Array Value} (H : OK Z a0) : (Cond.fieldLink "CyclicExecutive" 61 "CyclicExecutive" "pos" "I").before a0 Z = true := H.w 44 rfl
theorem wy_per {Z : State} {a0 : Array Value} (H : OK Z a0) : (Cond.laysFinal "CyclicExecutive" "CyclicExecutive" "per" "[I").before a0 Z = true := H.w 11 rfl
theorem wy_exe {Z : State} {a0 : Array Value} (H : OK Z a0) : (Cond.laysFinal "CyclicExecutive" "CyclicExecutive" "exe" "[I").before a0 Z = true := H.w 13 rfl
theorem wy_dl {Z : State} {a0 : Array Value} (H : OK Z a0) : (Cond.laysFinal "CyclicExecutive" "CyclicExecutive" "dl" "[I").before a0 Z = true := H.w 15 rfl
theorem wy_runCnt {Z : State} {a0 : Array Value} (H : OK Z a0) : (Cond.laysFinal "CyclicExecutive" "CyclicExecutive" "runCnt" "[I").before a0 Z = true := H.w 17 rfl
theorem wy_tickTask {Z : State} {a0 : Array Value} (H : OK Z a0) : (Cond.laysFinal "CyclicExecutive" "CyclicExecutive" "tickTask" "[I").before a0 Z = true := H.w 19 rfl
theorem wy_tickJob {Z : State} {a0 : Array Value} (H : OK Z a0) : (Cond.laysFinal "CyclicExecutive" "CyclicExecutive" "tickJob" "[I").before a0 Z = true := H.w 21 rfl
theorem wy_rem {Z : State} {a0 : Array Value} (H : OK Z a0) : (Cond.laysFinal "CyclicExecutive" "CyclicExecutive" "rem" "[I").before a0 Z = true := H.w 23 rfl
theorem wy_maxTasks {Z : State} {a0 : Array Value} (H : OK Z a0) : (Cond.lays "CyclicExecutive" "CyclicExecutive" "maxTasks" "I").before a0 Z = true := H.w 29 rfl
theorem wy_maxHyper {Z : State} {a0 : Array Value} (H : OK Z a0) : (Cond.lays "CyclicExecutive" "CyclicExecutive" "maxHyper" "I").before a0 Z = true := H.w 31 rfl
theorem wy_count {Z : State} {a0 : Array Value} (H : OK Z a0) : (Cond.lays "CyclicExecutive" "CyclicExecutive" "count" "I").before a0 Z = true := H.w 33 rfl
theorem wy_hyper {Z : State} {a0 : Array Value} (H : OK Z a0) : (Cond.lays "CyclicExecutive" "CyclicExecutive" "hyper" "I").before a0 Z = true := H.w 35 rfl
theorem wy_present {Z : State} {a0 : Array Value} (H : OK Z a0) : (Cond.lays "CyclicExecutive" "CyclicExecutive" "present" "Z").before a0 Z = true := H.w 37 rfl
theorem wy_frame {Z : State} {a0 : Array Value} (H : OK Z a0) : (Cond.lays "CyclicExecutive" "CyclicExecutive" "frame" "I").before a0 Z = true := H.w 39 rfl
theorem wy_miss {Z : State} {a0 : Array Value} (H : OK Z a0) : (Cond.lays "CyclicExecutive" "CyclicExecutive" "miss" "I").before a0 Z = true := H.w 41 rfl
theorem wy_now {Z : State} {a0 : Array Value} (H : OK Z a0) : (Cond.lays "CyclicExecutive" "CyclicExecutive" "now" "I").before a0 Z = true := H.w 43 rfl
theorem wy_pos {Z : State} {a0 : Array Value} (H : OK Z a0) : (Cond.lays "CyclicExecutive" "CyclicExecutive" "pos" "I").before a0 Z = true := H.w 45 rfl
theorem wa_int {Z : State} {a0 : Array Value} (H : OK Z a0) : (Cond.arrayClass (newarray.typeOf .int)).before a0 Z = true := H.w 9 rfl
theorem wz_C {Z : State} {a0 : Array Value} (H : OK Z a0) : (Cond.initialized "CyclicExecutive").before a0 Z = true := H.w 2 rfl
theorem coC {Z : State} {a0 : Array Value} (H : OK Z a0) : CO Z a0 cdC := by
  refine ⟨⟨16, H.w 1 rfl⟩, ?_, ?_, ?_, okcC⟩
  · intro t m; simp only [cdC, List.mem_cons, List.not_mem_nil, or_false] at m
    rcases m with rfl | rfl | rfl | rfl | rfl | rfl | rfl | rfl | rfl
    · exact Or.inl (wy_maxTasks H)
    · exact Or.inl (wy_maxHyper H)
    · exact Or.inl (wy_count H)
    · exact Or.inl (wy_hyper H)
    · exact Or.inl (wy_present H)
    · exact Or.inl (wy_frame H)
    · exact Or.inl (wy_miss H)
    · exact Or.inl (wy_now H)
    · exact Or.inl (wy_pos H)
  · intro t m; cases m
  · intro t m; simp only [cdC, List.mem_cons, List.not_mem_nil, or_false] at m
    rcases m with rfl | rfl | rfl | rfl | rfl | rfl | rfl
    · exact Or.inr (wy_per H)
    · exact Or.inr (wy_exe H)
    · exact Or.inr (wy_dl H)
    · exact Or.inr (wy_runCnt H)
    · exact Or.inr (wy_tickTask H)
    · exact Or.inr (wy_tickJob H)
    · exact Or.inr (wy_rem H)
theorem mrC {Z : State} (en : Nat × Nat) (h : Heap) : (MoC Z cdC).frm en h h := frmC.refl _ _ _
theorem mtC {Z : State} (en : Nat × Nat) (h1 h2 h3 : Heap) (a : (MoC Z cdC).frm en h1 h2) (b : (MoC Z cdC).frm en h2 h3) : (MoC Z cdC).frm en h1 h3 := frmC.trans a b
theorem mrL {Z : State} (en : Nat × Nat) (h : Heap) : (MoL Z cdC "CyclicExecutiveL7" true).frm en h h := trivial
theorem mtL {Z : State} (en : Nat × Nat) (h1 h2 h3 : Heap) (a : (MoL Z cdC "CyclicExecutiveL7" true).frm en h1 h2) (b : (MoL Z cdC "CyclicExecutiveL7" true).frm en h2 h3) : (MoL Z cdC "CyclicExecutiveL7" true).frm en h1 h3 := trivial
theorem pn_CyclicExecutive : plainName "CyclicExecutive" = true := by first | (simp [plainName, overriddenIn]; done) | decide +kernel
theorem pn_CyclicExecutiveL7 : plainName "CyclicExecutiveL7" = true := by first | (simp [plainName, overriddenIn]; done) | decide +kernel
theorem pd___I : ∀ sig, parseMethodDescriptor "()I" = some sig → 0 = sig.parameters.length := fun sig h => by
  have q : parseMethodDescriptor "()I" = some ⟨[], some .int⟩ := by decide +kernel
  cases q.symm.trans h; rfl
theorem pd___V : ∀ sig, parseMethodDescriptor "()V" = some sig → 0 = sig.parameters.length := fun sig h => by
  have q : parseMethodDescriptor "()V" = some ⟨[], none⟩ := by decide +kernel
  cases q.symm.trans h; rfl
theorem pd__I_I : ∀ sig, parseMethodDescriptor "(I)I" = some sig → 1 = sig.parameters.length := fun sig h => by
  have q : parseMethodDescriptor "(I)I" = some ⟨[.int], some .int⟩ := by decide +kernel
  cases q.symm.trans h; rfl
theorem pd__I_Z : ∀ sig, parseMethodDescriptor "(I)Z" = some sig → 1 = sig.parameters.length := fun sig h => by
  have q : parseMethodDescriptor "(I)Z" = some ⟨[.int], some .boolean⟩ := by decide +kernel
  cases q.symm.trans h; rfl
theorem pd__II_I : ∀ sig, parseMethodDescriptor "(II)I" = some sig → 2 = sig.parameters.length := fun sig h => by
  have q : parseMethodDescriptor "(II)I" = some ⟨[.int, .int], some .int⟩ := by decide +kernel
  cases q.symm.trans h; rfl
theorem pd__II_V : ∀ sig, parseMethodDescriptor "(II)V" = some sig → 2 = sig.parameters.length := fun sig h => by
  have q : parseMethodDescriptor "(II)V" = some ⟨[.int, .int], none⟩ := by decide +kernel
  cases q.symm.trans h; rfl
theorem pd__III_I : ∀ sig, parseMethodDescriptor "(III)I" = some sig → 3 = sig.parameters.length := fun sig h => by
  have q : parseMethodDescriptor "(III)I" = some ⟨[.int, .int, .int], some .int⟩ := by decide +kernel
  cases q.symm.trans h; rfl
theorem pd__LCyclicExecutive_I_J : ∀ sig, parseMethodDescriptor "(LCyclicExecutive;I)J" = some sig → 2 = sig.parameters.length := fun sig h => by
  have q : parseMethodDescriptor "(LCyclicExecutive;I)J" = some ⟨[(.object "CyclicExecutive"), .int], some .long⟩ := by decide +kernel
  cases q.symm.trans h; rfl
theorem pd__LCyclicExecutive_II_J : ∀ sig, parseMethodDescriptor "(LCyclicExecutive;II)J" = some sig → 3 = sig.parameters.length := fun sig h => by
  have q : parseMethodDescriptor "(LCyclicExecutive;II)J" = some ⟨[(.object "CyclicExecutive"), .int, .int], some .long⟩ := by decide +kernel
  cases q.symm.trans h; rfl
theorem pd___I_Z : ∀ sig, parseMethodDescriptor "([I)Z" = some sig → 1 = sig.parameters.length := fun sig h => by
  have q : parseMethodDescriptor "([I)Z" = some ⟨[(.array .int)], some .boolean⟩ := by decide +kernel
  cases q.symm.trans h; rfl
abbrev md_init : MD := (⟨"CyclicExecutive", "<init>", "(II)V"⟩, prog_1_method_1_code, 3, none, { frames := 1, cells := 7, slots := 1312, locals := 16 }, 7)
theorem cv_init {Z : State} {a0 : Array Value} (H : OK Z a0) : CalI Z a0 md_init 2 := ⟨pn_CyclicExecutive, by decide, pd__II_V, H.w 4 rfl, H.w 5 rfl, H.w 2 rfl, rfl, rfl⟩
theorem o_init_0 : InsA md_init 0 (.aload_n 0) 1 1 := ⟨by decide +kernel, rfl⟩
theorem o_init_1 : InsA md_init 1 (.invokespecial 1) 3 4 := ⟨by decide +kernel, rfl⟩
theorem o_init_4 : InsA md_init 4 (.aload_n 0) 1 5 := ⟨by decide +kernel, rfl⟩
theorem o_init_5 : InsA md_init 5 (.bipush 8) 2 7 := ⟨by decide +kernel, rfl⟩
theorem o_init_7 : InsA md_init 7 (.newarray .int) 2 9 := ⟨by decide +kernel, rfl⟩
theorem o_init_9 : InsA md_init 9 (.putfield 7) 3 12 := ⟨by decide +kernel, rfl⟩
theorem o_init_12 : InsA md_init 12 (.aload_n 0) 1 13 := ⟨by decide +kernel, rfl⟩
theorem o_init_13 : InsA md_init 13 (.bipush 8) 2 15 := ⟨by decide +kernel, rfl⟩
theorem o_init_15 : InsA md_init 15 (.newarray .int) 2 17 := ⟨by decide +kernel, rfl⟩
theorem o_init_17 : InsA md_init 17 (.putfield 13) 3 20 := ⟨by decide +kernel, rfl⟩
theorem o_init_20 : InsA md_init 20 (.aload_n 0) 1 21 := ⟨by decide +kernel, rfl⟩
theorem o_init_21 : InsA md_init 21 (.bipush 8) 2 23 := ⟨by decide +kernel, rfl⟩
theorem o_init_23 : InsA md_init 23 (.newarray .int) 2 25 := ⟨by decide +kernel, rfl⟩
theorem o_init_25 : InsA md_init 25 (.putfield 16) 3 28 := ⟨by decide +kernel, rfl⟩
theorem o_init_28 : InsA md_init 28 (.aload_n 0) 1 29 := ⟨by decide +kernel, rfl⟩
theorem o_init_29 : InsA md_init 29 (.bipush 8) 2 31 := ⟨by decide +kernel, rfl⟩
theorem o_init_31 : InsA md_init 31 (.newarray .int) 2 33 := ⟨by decide +kernel, rfl⟩
theorem o_init_33 : InsA md_init 33 (.putfield 19) 3 36 := ⟨by decide +kernel, rfl⟩
theorem o_init_36 : InsA md_init 36 (.aload_n 0) 1 37 := ⟨by decide +kernel, rfl⟩
theorem o_init_37 : InsA md_init 37 (.sipush 128) 3 40 := ⟨by decide +kernel, rfl⟩
theorem o_init_40 : InsA md_init 40 (.newarray .int) 2 42 := ⟨by decide +kernel, rfl⟩
theorem o_init_42 : InsA md_init 42 (.putfield 22) 3 45 := ⟨by decide +kernel, rfl⟩
theorem o_init_45 : InsA md_init 45 (.aload_n 0) 1 46 := ⟨by decide +kernel, rfl⟩
theorem o_init_46 : InsA md_init 46 (.sipush 128) 3 49 := ⟨by decide +kernel, rfl⟩
theorem o_init_49 : InsA md_init 49 (.newarray .int) 2 51 := ⟨by decide +kernel, rfl⟩
theorem o_init_51 : InsA md_init 51 (.putfield 25) 3 54 := ⟨by decide +kernel, rfl⟩
theorem o_init_54 : InsA md_init 54 (.aload_n 0) 1 55 := ⟨by decide +kernel, rfl⟩
theorem o_init_55 : InsA md_init 55 (.sipush 1024) 3 58 := ⟨by decide +kernel, rfl⟩
theorem o_init_58 : InsA md_init 58 (.newarray .int) 2 60 := ⟨by decide +kernel, rfl⟩
theorem o_init_60 : InsA md_init 60 (.putfield 28) 3 63 := ⟨by decide +kernel, rfl⟩
theorem o_init_63 : InsA md_init 63 (.aload_n 0) 1 64 := ⟨by decide +kernel, rfl⟩
theorem o_init_64 : InsA md_init 64 (.aload_n 0) 1 65 := ⟨by decide +kernel, rfl⟩
theorem o_init_65 : InsA md_init 65 (.iload_n 1) 1 66 := ⟨by decide +kernel, rfl⟩
theorem o_init_66 : InsA md_init 66 (.iconst 1) 1 67 := ⟨by decide +kernel, rfl⟩
theorem o_init_67 : InsA md_init 67 (.bipush 8) 2 69 := ⟨by decide +kernel, rfl⟩
theorem o_init_69 : InsA md_init 69 (.invokevirtual 31) 3 72 := ⟨by decide +kernel, rfl⟩
theorem o_init_72 : InsA md_init 72 (.putfield 35) 3 75 := ⟨by decide +kernel, rfl⟩
theorem o_init_75 : InsA md_init 75 (.aload_n 0) 1 76 := ⟨by decide +kernel, rfl⟩
theorem o_init_76 : InsA md_init 76 (.aload_n 0) 1 77 := ⟨by decide +kernel, rfl⟩
theorem o_init_77 : InsA md_init 77 (.iload_n 2) 1 78 := ⟨by decide +kernel, rfl⟩
theorem o_init_78 : InsA md_init 78 (.iconst 1) 1 79 := ⟨by decide +kernel, rfl⟩
theorem o_init_79 : InsA md_init 79 (.sipush 128) 3 82 := ⟨by decide +kernel, rfl⟩
theorem o_init_82 : InsA md_init 82 (.invokevirtual 31) 3 85 := ⟨by decide +kernel, rfl⟩
theorem o_init_85 : InsA md_init 85 (.putfield 39) 3 88 := ⟨by decide +kernel, rfl⟩
theorem o_init_88 : InsA md_init 88 (.aload_n 0) 1 89 := ⟨by decide +kernel, rfl⟩
theorem o_init_89 : InsA md_init 89 (.iconst 0) 1 90 := ⟨by decide +kernel, rfl⟩
theorem o_init_90 : InsA md_init 90 (.putfield 42) 3 93 := ⟨by decide +kernel, rfl⟩
theorem o_init_93 : InsA md_init 93 (.aload_n 0) 1 94 := ⟨by decide +kernel, rfl⟩
theorem o_init_94 : InsA md_init 94 (.iconst 0) 1 95 := ⟨by decide +kernel, rfl⟩
theorem o_init_95 : InsA md_init 95 (.putfield 45) 3 98 := ⟨by decide +kernel, rfl⟩
theorem o_init_98 : InsA md_init 98 (.aload_n 0) 1 99 := ⟨by decide +kernel, rfl⟩
theorem o_init_99 : InsA md_init 99 (.iconst 0) 1 100 := ⟨by decide +kernel, rfl⟩
theorem o_init_100 : InsA md_init 100 (.putfield 48) 3 103 := ⟨by decide +kernel, rfl⟩
theorem o_init_103 : InsA md_init 103 (.aload_n 0) 1 104 := ⟨by decide +kernel, rfl⟩
theorem o_init_104 : InsA md_init 104 (.iconst 0) 1 105 := ⟨by decide +kernel, rfl⟩
theorem o_init_105 : InsA md_init 105 (.putfield 52) 3 108 := ⟨by decide +kernel, rfl⟩
theorem o_init_108 : InsA md_init 108 (.aload_n 0) 1 109 := ⟨by decide +kernel, rfl⟩
theorem o_init_109 : InsA md_init 109 (.iconst (-1)) 1 110 := ⟨by decide +kernel, rfl⟩
theorem o_init_110 : InsA md_init 110 (.putfield 55) 3 113 := ⟨by decide +kernel, rfl⟩
theorem o_init_113 : InsA md_init 113 (.aload_n 0) 1 114 := ⟨by decide +kernel, rfl⟩
theorem o_init_114 : InsA md_init 114 (.iconst 0) 1 115 := ⟨by decide +kernel, rfl⟩
theorem o_init_115 : InsA md_init 115 (.putfield 58) 3 118 := ⟨by decide +kernel, rfl⟩
theorem o_init_118 : InsA md_init 118 (.aload_n 0) 1 119 := ⟨by decide +kernel, rfl⟩
theorem o_init_119 : InsA md_init 119 (.iconst 0) 1 120 := ⟨by decide +kernel, rfl⟩
theorem o_init_120 : InsA md_init 120 (.putfield 61) 3 123 := ⟨by decide +kernel, rfl⟩
theorem o_init_123 : InsA md_init 123 (.return_) 1 124 := ⟨by decide +kernel, rfl⟩
abbrev md_clamp : MD := (⟨"CyclicExecutive", "clamp", "(III)I"⟩, prog_1_method_2_code, 4, some .int, { frames := 0, cells := 0, slots := 0, locals := 0 }, 0)
theorem cv_clamp {Z : State} {a0 : Array Value} (H : OK Z a0) : CalV Z a0 md_clamp 3 := ⟨pn_CyclicExecutive, by decide, pd__III_I, H.w 25 rfl, H.w 27 rfl, H.w 2 rfl, Or.inr ⟨H.w 26 rfl, 16, H.w 1 rfl⟩⟩
theorem o_clamp_0 : InsA md_clamp 0 (.iload_n 1) 1 1 := ⟨by decide +kernel, rfl⟩
theorem o_clamp_1 : InsA md_clamp 1 (.iload_n 2) 1 2 := ⟨by decide +kernel, rfl⟩
theorem o_clamp_2 : InsB md_clamp 2 (.if_icmp .ge 5) 3 5 (5) 7 := ⟨by decide +kernel, rfl, by decide, by decide⟩
theorem o_clamp_5 : InsA md_clamp 5 (.iload_n 2) 1 6 := ⟨by decide +kernel, rfl⟩
theorem o_clamp_6 : InsA md_clamp 6 (.ireturn) 1 7 := ⟨by decide +kernel, rfl⟩
theorem o_clamp_7 : InsA md_clamp 7 (.iload_n 1) 1 8 := ⟨by decide +kernel, rfl⟩
theorem o_clamp_8 : InsA md_clamp 8 (.iload_n 3) 1 9 := ⟨by decide +kernel, rfl⟩
theorem o_clamp_9 : InsB md_clamp 9 (.if_icmp .le 5) 3 12 (5) 14 := ⟨by decide +kernel, rfl, by decide, by decide⟩
theorem o_clamp_12 : InsA md_clamp 12 (.iload_n 3) 1 13 := ⟨by decide +kernel, rfl⟩
theorem o_clamp_13 : InsA md_clamp 13 (.ireturn) 1 14 := ⟨by decide +kernel, rfl⟩
theorem o_clamp_14 : InsA md_clamp 14 (.iload_n 1) 1 15 := ⟨by decide +kernel, rfl⟩
theorem o_clamp_15 : InsA md_clamp 15 (.ireturn) 1 16 := ⟨by decide +kernel, rfl⟩
abbrev md_run : MD := (⟨"CyclicExecutive", "run", "(I)I"⟩, prog_1_method_26_code, 5, some .int, { frames := 0, cells := 0, slots := 0, locals := 0 }, 0)
theorem cv_run {Z : State} {a0 : Array Value} (H : OK Z a0) : CalV Z a0 md_run 1 := ⟨pn_CyclicExecutive, by decide, pd__I_I, H.w 48 rfl, H.w 50 rfl, H.w 2 rfl, Or.inl ⟨H.w 47 rfl, H.w 49 rfl⟩⟩
theorem o_run_0 : InsA md_run 0 (.aload_n 0) 1 1 := ⟨by decide +kernel, rfl⟩
theorem o_run_1 : InsA md_run 1 (.getfield 48) 3 4 := ⟨by decide +kernel, rfl⟩
theorem o_run_4 : InsB md_run 4 (.ifCond .eq 16) 3 7 (16) 20 := ⟨by decide +kernel, rfl, by decide, by decide⟩
theorem o_run_7 : InsA md_run 7 (.iload_n 1) 1 8 := ⟨by decide +kernel, rfl⟩
theorem o_run_8 : InsA md_run 8 (.iconst 1) 1 9 := ⟨by decide +kernel, rfl⟩
theorem o_run_9 : InsB md_run 9 (.if_icmp .lt 11) 3 12 (11) 20 := ⟨by decide +kernel, rfl, by decide, by decide⟩
theorem o_run_12 : InsA md_run 12 (.aload_n 0) 1 13 := ⟨by decide +kernel, rfl⟩
theorem o_run_13 : InsA md_run 13 (.getfield 45) 3 16 := ⟨by decide +kernel, rfl⟩
theorem o_run_16 : InsA md_run 16 (.iconst 1) 1 17 := ⟨by decide +kernel, rfl⟩
theorem o_run_17 : InsB md_run 17 (.if_icmp .ge 5) 3 20 (5) 22 := ⟨by decide +kernel, rfl, by decide, by decide⟩
theorem o_run_20 : InsA md_run 20 (.iconst 0) 1 21 := ⟨by decide +kernel, rfl⟩
theorem o_run_21 : InsA md_run 21 (.ireturn) 1 22 := ⟨by decide +kernel, rfl⟩
theorem o_run_22 : InsA md_run 22 (.iload_n 1) 1 23 := ⟨by decide +kernel, rfl⟩
theorem o_run_23 : InsA md_run 23 (.sipush 4096) 3 26 := ⟨by decide +kernel, rfl⟩
theorem o_run_26 : InsB md_run 26 (.if_icmp .ge 7) 3 29 (7) 33 := ⟨by decide +kernel, rfl, by decide, by decide⟩
theorem o_run_29 : InsA md_run 29 (.iload_n 1) 1 30 := ⟨by decide +kernel, rfl⟩
theorem o_run_30 : InsB md_run 30 (.goto 6) 3 33 (6) 36 := ⟨by decide +kernel, rfl, by decide, by decide⟩
theorem o_run_33 : InsA md_run 33 (.sipush 4096) 3 36 := ⟨by decide +kernel, rfl⟩
theorem o_run_36 : InsA md_run 36 (.istore_n 2) 1 37 := ⟨by decide +kernel, rfl⟩
theorem o_run_37 : InsA md_run 37 (.iconst 0) 1 38 := ⟨by decide +kernel, rfl⟩
theorem o_run_38 : InsA md_run 38 (.istore_n 3) 1 39 := ⟨by decide +kernel, rfl⟩
theorem o_run_39 : InsA md_run 39 (.iload_n 3) 1 40 := ⟨by decide +kernel, rfl⟩
theorem o_run_40 : InsA md_run 40 (.iload_n 2) 1 41 := ⟨by decide +kernel, rfl⟩
theorem o_run_41 : InsB md_run 41 (.if_icmp .ge 112) 3 44 (112) 153 := ⟨by decide +kernel, rfl, by decide, by decide⟩
theorem o_run_44 : InsA md_run 44 (.aload_n 0) 1 45 := ⟨by decide +kernel, rfl⟩
theorem o_run_45 : InsA md_run 45 (.getfield 61) 3 48 := ⟨by decide +kernel, rfl⟩
theorem o_run_48 : InsB md_run 48 (.ifCond .lt 24) 3 51 (24) 72 := ⟨by decide +kernel, rfl, by decide, by decide⟩
theorem o_run_51 : InsA md_run 51 (.aload_n 0) 1 52 := ⟨by decide +kernel, rfl⟩
theorem o_run_52 : InsA md_run 52 (.getfield 61) 3 55 := ⟨by decide +kernel, rfl⟩
theorem o_run_55 : InsA md_run 55 (.aload_n 0) 1 56 := ⟨by decide +kernel, rfl⟩
theorem o_run_56 : InsA md_run 56 (.getfield 45) 3 59 := ⟨by decide +kernel, rfl⟩
theorem o_run_59 : InsB md_run 59 (.if_icmp .ge 13) 3 62 (13) 72 := ⟨by decide +kernel, rfl, by decide, by decide⟩
theorem o_run_62 : InsA md_run 62 (.aload_n 0) 1 63 := ⟨by decide +kernel, rfl⟩
theorem o_run_63 : InsA md_run 63 (.getfield 61) 3 66 := ⟨by decide +kernel, rfl⟩
theorem o_run_66 : InsA md_run 66 (.sipush 128) 3 69 := ⟨by decide +kernel, rfl⟩
theorem o_run_69 : InsB md_run 69 (.if_icmp .lt 8) 3 72 (8) 77 := ⟨by decide +kernel, rfl, by decide, by decide⟩
theorem o_run_72 : InsA md_run 72 (.aload_n 0) 1 73 := ⟨by decide +kernel, rfl⟩
theorem o_run_73 : InsA md_run 73 (.iconst 0) 1 74 := ⟨by decide +kernel, rfl⟩
theorem o_run_74 : InsA md_run 74 (.putfield 61) 3 77 := ⟨by decide +kernel, rfl⟩
theorem o_run_77 : InsA md_run 77 (.aload_n 0) 1 78 := ⟨by decide +kernel, rfl⟩
theorem o_run_78 : InsA md_run 78 (.getfield 22) 3 81 := ⟨by decide +kernel, rfl⟩
theorem o_run_81 : InsA md_run 81 (.aload_n 0) 1 82 := ⟨by decide +kernel, rfl⟩
theorem o_run_82 : InsA md_run 82 (.getfield 61) 3 85 := ⟨by decide +kernel, rfl⟩
theorem o_run_85 : InsA md_run 85 (.iaload) 1 86 := ⟨by decide +kernel, rfl⟩
theorem o_run_86 : InsA md_run 86 (.istore 4) 2 88 := ⟨by decide +kernel, rfl⟩
theorem o_run_88 : InsA md_run 88 (.iload 4) 2 90 := ⟨by decide +kernel, rfl⟩
theorem o_run_90 : InsB md_run 90 (.ifCond .lt 21) 3 93 (21) 111 := ⟨by decide +kernel, rfl, by decide, by decide⟩
theorem o_run_93 : InsA md_run 93 (.iload 4) 2 95 := ⟨by decide +kernel, rfl⟩
theorem o_run_95 : InsA md_run 95 (.bipush 8) 2 97 := ⟨by decide +kernel, rfl⟩
theorem o_run_97 : InsB md_run 97 (.if_icmp .ge 14) 3 100 (14) 111 := ⟨by decide +kernel, rfl, by decide, by decide⟩
theorem o_run_100 : InsA md_run 100 (.aload_n 0) 1 101 := ⟨by decide +kernel, rfl⟩
theorem o_run_101 : InsA md_run 101 (.getfield 19) 3 104 := ⟨by decide +kernel, rfl⟩
theorem o_run_104 : InsA md_run 104 (.iload 4) 2 106 := ⟨by decide +kernel, rfl⟩
theorem o_run_106 : InsA md_run 106 (.dup2) 1 107 := ⟨by decide +kernel, rfl⟩
theorem o_run_107 : InsA md_run 107 (.iaload) 1 108 := ⟨by decide +kernel, rfl⟩
theorem o_run_108 : InsA md_run 108 (.iconst 1) 1 109 := ⟨by decide +kernel, rfl⟩
theorem o_run_109 : InsA md_run 109 (.iadd) 1 110 := ⟨by decide +kernel, rfl⟩
theorem o_run_110 : InsA md_run 110 (.iastore) 1 111 := ⟨by decide +kernel, rfl⟩
theorem o_run_111 : InsA md_run 111 (.aload_n 0) 1 112 := ⟨by decide +kernel, rfl⟩
theorem o_run_112 : InsA md_run 112 (.dup) 1 113 := ⟨by decide +kernel, rfl⟩
theorem o_run_113 : InsA md_run 113 (.getfield 58) 3 116 := ⟨by decide +kernel, rfl⟩
theorem o_run_116 : InsA md_run 116 (.iconst 1) 1 117 := ⟨by decide +kernel, rfl⟩
theorem o_run_117 : InsA md_run 117 (.iadd) 1 118 := ⟨by decide +kernel, rfl⟩
theorem o_run_118 : InsA md_run 118 (.putfield 58) 3 121 := ⟨by decide +kernel, rfl⟩
theorem o_run_121 : InsA md_run 121 (.aload_n 0) 1 122 := ⟨by decide +kernel, rfl⟩
theorem o_run_122 : InsA md_run 122 (.dup) 1 123 := ⟨by decide +kernel, rfl⟩
theorem o_run_123 : InsA md_run 123 (.getfield 61) 3 126 := ⟨by decide +kernel, rfl⟩
theorem o_run_126 : InsA md_run 126 (.iconst 1) 1 127 := ⟨by decide +kernel, rfl⟩
theorem o_run_127 : InsA md_run 127 (.iadd) 1 128 := ⟨by decide +kernel, rfl⟩
theorem o_run_128 : InsA md_run 128 (.putfield 61) 3 131 := ⟨by decide +kernel, rfl⟩
theorem o_run_131 : InsA md_run 131 (.aload_n 0) 1 132 := ⟨by decide +kernel, rfl⟩
theorem o_run_132 : InsA md_run 132 (.getfield 61) 3 135 := ⟨by decide +kernel, rfl⟩
theorem o_run_135 : InsA md_run 135 (.aload_n 0) 1 136 := ⟨by decide +kernel, rfl⟩
theorem o_run_136 : InsA md_run 136 (.getfield 45) 3 139 := ⟨by decide +kernel, rfl⟩
theorem o_run_139 : InsB md_run 139 (.if_icmp .lt 8) 3 142 (8) 147 := ⟨by decide +kernel, rfl, by decide, by decide⟩
theorem o_run_142 : InsA md_run 142 (.aload_n 0) 1 143 := ⟨by decide +kernel, rfl⟩
theorem o_run_143 : InsA md_run 143 (.iconst 0) 1 144 := ⟨by decide +kernel, rfl⟩
theorem o_run_144 : InsA md_run 144 (.putfield 61) 3 147 := ⟨by decide +kernel, rfl⟩
theorem o_run_147 : InsA md_run 147 (.iinc 3 1) 3 150 := ⟨by decide +kernel, rfl⟩
theorem o_run_150 : InsB md_run 150 (.goto (-111)) 3 153 (-111) 39 := ⟨by decide +kernel, rfl, by decide, by decide⟩
theorem o_run_153 : InsA md_run 153 (.iload_n 2) 1 154 := ⟨by decide +kernel, rfl⟩
theorem o_run_154 : InsA md_run 154 (.ireturn) 1 155 := ⟨by decide +kernel, rfl⟩
abbrev md_addTask : MD := (⟨"CyclicExecutive", "addTask", "(III)I"⟩, prog_1_method_6_code, 7, some .int, { frames := 2, cells := 0, slots := 0, locals := 33 }, 0)
theorem cv_addTask {Z : State} {a0 : Array Value} (H : OK Z a0) : CalV Z a0 md_addTask 3 := ⟨pn_CyclicExecutive, by decide, pd__III_I, H.w 53 rfl, H.w 55 rfl, H.w 2 rfl, Or.inl ⟨H.w 52 rfl, H.w 54 rfl⟩⟩
theorem o_addTask_0 : InsA md_addTask 0 (.iload_n 1) 1 1 := ⟨by decide +kernel, rfl⟩
theorem o_addTask_1 : InsA md_addTask 1 (.iconst 1) 1 2 := ⟨by decide +kernel, rfl⟩
theorem o_addTask_2 : InsB md_addTask 2 (.if_icmp .lt 30) 3 5 (30) 32 := ⟨by decide +kernel, rfl, by decide, by decide⟩
theorem o_addTask_5 : InsA md_addTask 5 (.iload_n 1) 1 6 := ⟨by decide +kernel, rfl⟩
theorem o_addTask_6 : InsA md_addTask 6 (.sipush 128) 3 9 := ⟨by decide +kernel, rfl⟩
theorem o_addTask_9 : InsB md_addTask 9 (.if_icmp .gt 23) 3 12 (23) 32 := ⟨by decide +kernel, rfl, by decide, by decide⟩
theorem o_addTask_12 : InsA md_addTask 12 (.iload_n 3) 1 13 := ⟨by decide +kernel, rfl⟩
theorem o_addTask_13 : InsA md_addTask 13 (.iconst 1) 1 14 := ⟨by decide +kernel, rfl⟩
theorem o_addTask_14 : InsB md_addTask 14 (.if_icmp .lt 18) 3 17 (18) 32 := ⟨by decide +kernel, rfl, by decide, by decide⟩
theorem o_addTask_17 : InsA md_addTask 17 (.iload_n 3) 1 18 := ⟨by decide +kernel, rfl⟩
theorem o_addTask_18 : InsA md_addTask 18 (.iload_n 1) 1 19 := ⟨by decide +kernel, rfl⟩
theorem o_addTask_19 : InsB md_addTask 19 (.if_icmp .gt 13) 3 22 (13) 32 := ⟨by decide +kernel, rfl, by decide, by decide⟩
theorem o_addTask_22 : InsA md_addTask 22 (.iload_n 2) 1 23 := ⟨by decide +kernel, rfl⟩
theorem o_addTask_23 : InsA md_addTask 23 (.iconst 1) 1 24 := ⟨by decide +kernel, rfl⟩
theorem o_addTask_24 : InsB md_addTask 24 (.if_icmp .lt 8) 3 27 (8) 32 := ⟨by decide +kernel, rfl, by decide, by decide⟩
theorem o_addTask_27 : InsA md_addTask 27 (.iload_n 2) 1 28 := ⟨by decide +kernel, rfl⟩
theorem o_addTask_28 : InsA md_addTask 28 (.iload_n 3) 1 29 := ⟨by decide +kernel, rfl⟩
theorem o_addTask_29 : InsB md_addTask 29 (.if_icmp .le 5) 3 32 (5) 34 := ⟨by decide +kernel, rfl, by decide, by decide⟩
theorem o_addTask_32 : InsA md_addTask 32 (.iconst (-1)) 1 33 := ⟨by decide +kernel, rfl⟩
theorem o_addTask_33 : InsA md_addTask 33 (.ireturn) 1 34 := ⟨by decide +kernel, rfl⟩
theorem o_addTask_34 : InsA md_addTask 34 (.aload_n 0) 1 35 := ⟨by decide +kernel, rfl⟩
theorem o_addTask_35 : InsA md_addTask 35 (.getfield 42) 3 38 := ⟨by decide +kernel, rfl⟩
theorem o_addTask_38 : InsA md_addTask 38 (.aload_n 0) 1 39 := ⟨by decide +kernel, rfl⟩
theorem o_addTask_39 : InsA md_addTask 39 (.getfield 35) 3 42 := ⟨by decide +kernel, rfl⟩
theorem o_addTask_42 : InsB md_addTask 42 (.if_icmp .lt 6) 3 45 (6) 48 := ⟨by decide +kernel, rfl, by decide, by decide⟩
theorem o_addTask_45 : InsA md_addTask 45 (.bipush (-2)) 2 47 := ⟨by decide +kernel, rfl⟩
theorem o_addTask_47 : InsA md_addTask 47 (.ireturn) 1 48 := ⟨by decide +kernel, rfl⟩
theorem o_addTask_48 : InsA md_addTask 48 (.aload_n 0) 1 49 := ⟨by decide +kernel, rfl⟩
theorem o_addTask_49 : InsA md_addTask 49 (.getfield 42) 3 52 := ⟨by decide +kernel, rfl⟩
theorem o_addTask_52 : InsB md_addTask 52 (.ifCond .ne 7) 3 55 (7) 59 := ⟨by decide +kernel, rfl, by decide, by decide⟩
theorem o_addTask_55 : InsA md_addTask 55 (.iconst 1) 1 56 := ⟨by decide +kernel, rfl⟩
theorem o_addTask_56 : InsB md_addTask 56 (.goto 7) 3 59 (7) 63 := ⟨by decide +kernel, rfl, by decide, by decide⟩
theorem o_addTask_59 : InsA md_addTask 59 (.aload_n 0) 1 60 := ⟨by decide +kernel, rfl⟩
theorem o_addTask_60 : InsA md_addTask 60 (.getfield 45) 3 63 := ⟨by decide +kernel, rfl⟩
theorem o_addTask_63 : InsA md_addTask 63 (.istore 4) 2 65 := ⟨by decide +kernel, rfl⟩
theorem o_addTask_65 : InsA md_addTask 65 (.aload_n 0) 1 66 := ⟨by decide +kernel, rfl⟩
theorem o_addTask_66 : InsA md_addTask 66 (.iload 4) 2 68 := ⟨by decide +kernel, rfl⟩
theorem o_addTask_68 : InsA md_addTask 68 (.iload_n 1) 1 69 := ⟨by decide +kernel, rfl⟩
theorem o_addTask_69 : InsA md_addTask 69 (.invokevirtual 68) 3 72 := ⟨by decide +kernel, rfl⟩
theorem o_addTask_72 : InsA md_addTask 72 (.istore 5) 2 74 := ⟨by decide +kernel, rfl⟩
theorem o_addTask_74 : InsA md_addTask 74 (.iload 5) 2 76 := ⟨by decide +kernel, rfl⟩
theorem o_addTask_76 : InsA md_addTask 76 (.aload_n 0) 1 77 := ⟨by decide +kernel, rfl⟩
theorem o_addTask_77 : InsA md_addTask 77 (.getfield 39) 3 80 := ⟨by decide +kernel, rfl⟩
theorem o_addTask_80 : InsB md_addTask 80 (.if_icmp .le 6) 3 83 (6) 86 := ⟨by decide +kernel, rfl, by decide, by decide⟩
theorem o_addTask_83 : InsA md_addTask 83 (.bipush (-3)) 2 85 := ⟨by decide +kernel, rfl⟩
theorem o_addTask_85 : InsA md_addTask 85 (.ireturn) 1 86 := ⟨by decide +kernel, rfl⟩
theorem o_addTask_86 : InsA md_addTask 86 (.aload_n 0) 1 87 := ⟨by decide +kernel, rfl⟩
theorem o_addTask_87 : InsA md_addTask 87 (.getfield 42) 3 90 := ⟨by decide +kernel, rfl⟩
theorem o_addTask_90 : InsA md_addTask 90 (.istore 6) 2 92 := ⟨by decide +kernel, rfl⟩
theorem o_addTask_92 : InsA md_addTask 92 (.aload_n 0) 1 93 := ⟨by decide +kernel, rfl⟩
theorem o_addTask_93 : InsA md_addTask 93 (.getfield 7) 3 96 := ⟨by decide +kernel, rfl⟩
theorem o_addTask_96 : InsA md_addTask 96 (.iload 6) 2 98 := ⟨by decide +kernel, rfl⟩
theorem o_addTask_98 : InsA md_addTask 98 (.iload_n 1) 1 99 := ⟨by decide +kernel, rfl⟩
theorem o_addTask_99 : InsA md_addTask 99 (.iastore) 1 100 := ⟨by decide +kernel, rfl⟩
theorem o_addTask_100 : InsA md_addTask 100 (.aload_n 0) 1 101 := ⟨by decide +kernel, rfl⟩
theorem o_addTask_101 : InsA md_addTask 101 (.getfield 13) 3 104 := ⟨by decide +kernel, rfl⟩
theorem o_addTask_104 : InsA md_addTask 104 (.iload 6) 2 106 := ⟨by decide +kernel, rfl⟩
theorem o_addTask_106 : InsA md_addTask 106 (.iload_n 2) 1 107 := ⟨by decide +kernel, rfl⟩
theorem o_addTask_107 : InsA md_addTask 107 (.iastore) 1 108 := ⟨by decide +kernel, rfl⟩
theorem o_addTask_108 : InsA md_addTask 108 (.aload_n 0) 1 109 := ⟨by decide +kernel, rfl⟩
theorem o_addTask_109 : InsA md_addTask 109 (.getfield 16) 3 112 := ⟨by decide +kernel, rfl⟩
theorem o_addTask_112 : InsA md_addTask 112 (.iload 6) 2 114 := ⟨by decide +kernel, rfl⟩
theorem o_addTask_114 : InsA md_addTask 114 (.iload_n 3) 1 115 := ⟨by decide +kernel, rfl⟩
theorem o_addTask_115 : InsA md_addTask 115 (.iastore) 1 116 := ⟨by decide +kernel, rfl⟩
theorem o_addTask_116 : InsA md_addTask 116 (.aload_n 0) 1 117 := ⟨by decide +kernel, rfl⟩
theorem o_addTask_117 : InsA md_addTask 117 (.dup) 1 118 := ⟨by decide +kernel, rfl⟩
theorem o_addTask_118 : InsA md_addTask 118 (.getfield 42) 3 121 := ⟨by decide +kernel, rfl⟩
theorem o_addTask_121 : InsA md_addTask 121 (.iconst 1) 1 122 := ⟨by decide +kernel, rfl⟩
theorem o_addTask_122 : InsA md_addTask 122 (.iadd) 1 123 := ⟨by decide +kernel, rfl⟩
theorem o_addTask_123 : InsA md_addTask 123 (.putfield 42) 3 126 := ⟨by decide +kernel, rfl⟩
theorem o_addTask_126 : InsA md_addTask 126 (.aload_n 0) 1 127 := ⟨by decide +kernel, rfl⟩
theorem o_addTask_127 : InsA md_addTask 127 (.iload 5) 2 129 := ⟨by decide +kernel, rfl⟩
theorem o_addTask_129 : InsA md_addTask 129 (.putfield 45) 3 132 := ⟨by decide +kernel, rfl⟩
theorem o_addTask_132 : InsA md_addTask 132 (.aload_n 0) 1 133 := ⟨by decide +kernel, rfl⟩
theorem o_addTask_133 : InsA md_addTask 133 (.iconst 0) 1 134 := ⟨by decide +kernel, rfl⟩
theorem o_addTask_134 : InsA md_addTask 134 (.putfield 48) 3 137 := ⟨by decide +kernel, rfl⟩
theorem o_addTask_137 : InsA md_addTask 137 (.aload_n 0) 1 138 := ⟨by decide +kernel, rfl⟩
theorem o_addTask_138 : InsA md_addTask 138 (.iconst 0) 1 139 := ⟨by decide +kernel, rfl⟩
theorem o_addTask_139 : InsA md_addTask 139 (.putfield 52) 3 142 := ⟨by decide +kernel, rfl⟩
theorem o_addTask_142 : InsA md_addTask 142 (.aload_n 0) 1 143 := ⟨by decide +kernel, rfl⟩
theorem o_addTask_143 : InsA md_addTask 143 (.iconst (-1)) 1 144 := ⟨by decide +kernel, rfl⟩
theorem o_addTask_144 : InsA md_addTask 144 (.putfield 55) 3 147 := ⟨by decide +kernel, rfl⟩
theorem o_addTask_147 : InsA md_addTask 147 (.aload_n 0) 1 148 := ⟨by decide +kernel, rfl⟩
theorem o_addTask_148 : InsA md_addTask 148 (.invokevirtual 71) 3 151 := ⟨by decide +kernel, rfl⟩
theorem o_addTask_151 : InsA md_addTask 151 (.iload 6) 2 153 := ⟨by decide +kernel, rfl⟩
theorem o_addTask_153 : InsA md_addTask 153 (.ireturn) 1 154 := ⟨by decide +kernel, rfl⟩
abbrev md_lcm : MD := (⟨"CyclicExecutive", "lcm", "(II)I"⟩, prog_1_method_4_code, 4, some .int, { frames := 1, cells := 0, slots := 0, locals := 18 }, 0)
theorem cv_lcm {Z : State} {a0 : Array Value} (H : OK Z a0) : CalV Z a0 md_lcm 2 := ⟨pn_CyclicExecutive, by decide, pd__II_I, H.w 57 rfl, H.w 59 rfl, H.w 2 rfl, Or.inr ⟨H.w 58 rfl, 16, H.w 1 rfl⟩⟩
theorem o_lcm_0 : InsA md_lcm 0 (.aload_n 0) 1 1 := ⟨by decide +kernel, rfl⟩
theorem o_lcm_1 : InsA md_lcm 1 (.iload_n 1) 1 2 := ⟨by decide +kernel, rfl⟩
theorem o_lcm_2 : InsA md_lcm 2 (.iload_n 2) 1 3 := ⟨by decide +kernel, rfl⟩
theorem o_lcm_3 : InsA md_lcm 3 (.invokevirtual 64) 3 6 := ⟨by decide +kernel, rfl⟩
theorem o_lcm_6 : InsA md_lcm 6 (.istore_n 3) 1 7 := ⟨by decide +kernel, rfl⟩
theorem o_lcm_7 : InsA md_lcm 7 (.iload_n 3) 1 8 := ⟨by decide +kernel, rfl⟩
theorem o_lcm_8 : InsB md_lcm 8 (.ifCond .ne 5) 3 11 (5) 13 := ⟨by decide +kernel, rfl, by decide, by decide⟩
theorem o_lcm_11 : InsA md_lcm 11 (.iconst 0) 1 12 := ⟨by decide +kernel, rfl⟩
theorem o_lcm_12 : InsA md_lcm 12 (.ireturn) 1 13 := ⟨by decide +kernel, rfl⟩
theorem o_lcm_13 : InsA md_lcm 13 (.iload_n 1) 1 14 := ⟨by decide +kernel, rfl⟩
theorem o_lcm_14 : InsA md_lcm 14 (.iload_n 3) 1 15 := ⟨by decide +kernel, rfl⟩
theorem o_lcm_15 : InsA md_lcm 15 (.idiv) 1 16 := ⟨by decide +kernel, rfl⟩
theorem o_lcm_16 : InsA md_lcm 16 (.iload_n 2) 1 17 := ⟨by decide +kernel, rfl⟩
theorem o_lcm_17 : InsA md_lcm 17 (.imul) 1 18 := ⟨by decide +kernel, rfl⟩
theorem o_lcm_18 : InsA md_lcm 18 (.ireturn) 1 19 := ⟨by decide +kernel, rfl⟩
abbrev md_gcd : MD := (⟨"CyclicExecutive", "gcd", "(II)I"⟩, prog_1_method_3_code, 7, some .int, { frames := 0, cells := 0, slots := 0, locals := 0 }, 0)
theorem cv_gcd {Z : State} {a0 : Array Value} (H : OK Z a0) : CalV Z a0 md_gcd 2 := ⟨pn_CyclicExecutive, by decide, pd__II_I, H.w 61 rfl, H.w 63 rfl, H.w 2 rfl, Or.inr ⟨H.w 62 rfl, 16, H.w 1 rfl⟩⟩
theorem o_gcd_0 : InsA md_gcd 0 (.iload_n 1) 1 1 := ⟨by decide +kernel, rfl⟩
theorem o_gcd_1 : InsA md_gcd 1 (.istore_n 3) 1 2 := ⟨by decide +kernel, rfl⟩
theorem o_gcd_2 : InsA md_gcd 2 (.iload_n 2) 1 3 := ⟨by decide +kernel, rfl⟩
theorem o_gcd_3 : InsA md_gcd 3 (.istore 4) 2 5 := ⟨by decide +kernel, rfl⟩
theorem o_gcd_5 : InsA md_gcd 5 (.iconst 0) 1 6 := ⟨by decide +kernel, rfl⟩
theorem o_gcd_6 : InsA md_gcd 6 (.istore 5) 2 8 := ⟨by decide +kernel, rfl⟩
theorem o_gcd_8 : InsA md_gcd 8 (.iload 5) 2 10 := ⟨by decide +kernel, rfl⟩
theorem o_gcd_10 : InsA md_gcd 10 (.bipush 64) 2 12 := ⟨by decide +kernel, rfl⟩
theorem o_gcd_12 : InsB md_gcd 12 (.if_icmp .ge 27) 3 15 (27) 39 := ⟨by decide +kernel, rfl, by decide, by decide⟩
theorem o_gcd_15 : InsA md_gcd 15 (.iload 4) 2 17 := ⟨by decide +kernel, rfl⟩
theorem o_gcd_17 : InsB md_gcd 17 (.ifCond .eq 22) 3 20 (22) 39 := ⟨by decide +kernel, rfl, by decide, by decide⟩
theorem o_gcd_20 : InsA md_gcd 20 (.iload_n 3) 1 21 := ⟨by decide +kernel, rfl⟩
theorem o_gcd_21 : InsA md_gcd 21 (.iload 4) 2 23 := ⟨by decide +kernel, rfl⟩
theorem o_gcd_23 : InsA md_gcd 23 (.irem) 1 24 := ⟨by decide +kernel, rfl⟩
theorem o_gcd_24 : InsA md_gcd 24 (.istore 6) 2 26 := ⟨by decide +kernel, rfl⟩
theorem o_gcd_26 : InsA md_gcd 26 (.iload 4) 2 28 := ⟨by decide +kernel, rfl⟩
theorem o_gcd_28 : InsA md_gcd 28 (.istore_n 3) 1 29 := ⟨by decide +kernel, rfl⟩
theorem o_gcd_29 : InsA md_gcd 29 (.iload 6) 2 31 := ⟨by decide +kernel, rfl⟩
theorem o_gcd_31 : InsA md_gcd 31 (.istore 4) 2 33 := ⟨by decide +kernel, rfl⟩
theorem o_gcd_33 : InsA md_gcd 33 (.iinc 5 1) 3 36 := ⟨by decide +kernel, rfl⟩
theorem o_gcd_36 : InsB md_gcd 36 (.goto (-28)) 3 39 (-28) 8 := ⟨by decide +kernel, rfl, by decide, by decide⟩
theorem o_gcd_39 : InsA md_gcd 39 (.iload_n 3) 1 40 := ⟨by decide +kernel, rfl⟩
theorem o_gcd_40 : InsA md_gcd 40 (.ireturn) 1 41 := ⟨by decide +kernel, rfl⟩
abbrev md_resetDispatcher : MD := (⟨"CyclicExecutive", "resetDispatcher", "()V"⟩, prog_1_method_5_code, 2, none, { frames := 0, cells := 0, slots := 0, locals := 0 }, 0)
theorem cv_resetDispatcher {Z : State} {a0 : Array Value} (H : OK Z a0) : CalV Z a0 md_resetDispatcher 0 := ⟨pn_CyclicExecutive, by decide, pd___V, H.w 65 rfl, H.w 67 rfl, H.w 2 rfl, Or.inr ⟨H.w 66 rfl, 16, H.w 1 rfl⟩⟩
theorem o_resetDispatcher_0 : InsA md_resetDispatcher 0 (.aload_n 0) 1 1 := ⟨by decide +kernel, rfl⟩
theorem o_resetDispatcher_1 : InsA md_resetDispatcher 1 (.iconst 0) 1 2 := ⟨by decide +kernel, rfl⟩
theorem o_resetDispatcher_2 : InsA md_resetDispatcher 2 (.putfield 58) 3 5 := ⟨by decide +kernel, rfl⟩
theorem o_resetDispatcher_5 : InsA md_resetDispatcher 5 (.aload_n 0) 1 6 := ⟨by decide +kernel, rfl⟩
theorem o_resetDispatcher_6 : InsA md_resetDispatcher 6 (.iconst 0) 1 7 := ⟨by decide +kernel, rfl⟩
theorem o_resetDispatcher_7 : InsA md_resetDispatcher 7 (.putfield 61) 3 10 := ⟨by decide +kernel, rfl⟩
theorem o_resetDispatcher_10 : InsA md_resetDispatcher 10 (.iconst 0) 1 11 := ⟨by decide +kernel, rfl⟩
theorem o_resetDispatcher_11 : InsA md_resetDispatcher 11 (.istore_n 1) 1 12 := ⟨by decide +kernel, rfl⟩
theorem o_resetDispatcher_12 : InsA md_resetDispatcher 12 (.iload_n 1) 1 13 := ⟨by decide +kernel, rfl⟩
theorem o_resetDispatcher_13 : InsA md_resetDispatcher 13 (.bipush 8) 2 15 := ⟨by decide +kernel, rfl⟩
theorem o_resetDispatcher_15 : InsB md_resetDispatcher 15 (.if_icmp .ge 16) 3 18 (16) 31 := ⟨by decide +kernel, rfl, by decide, by decide⟩
theorem o_resetDispatcher_18 : InsA md_resetDispatcher 18 (.aload_n 0) 1 19 := ⟨by decide +kernel, rfl⟩
theorem o_resetDispatcher_19 : InsA md_resetDispatcher 19 (.getfield 19) 3 22 := ⟨by decide +kernel, rfl⟩
theorem o_resetDispatcher_22 : InsA md_resetDispatcher 22 (.iload_n 1) 1 23 := ⟨by decide +kernel, rfl⟩
theorem o_resetDispatcher_23 : InsA md_resetDispatcher 23 (.iconst 0) 1 24 := ⟨by decide +kernel, rfl⟩
theorem o_resetDispatcher_24 : InsA md_resetDispatcher 24 (.iastore) 1 25 := ⟨by decide +kernel, rfl⟩
theorem o_resetDispatcher_25 : InsA md_resetDispatcher 25 (.iinc 1 1) 3 28 := ⟨by decide +kernel, rfl⟩
theorem o_resetDispatcher_28 : InsB md_resetDispatcher 28 (.goto (-16)) 3 31 (-16) 12 := ⟨by decide +kernel, rfl, by decide, by decide⟩
theorem o_resetDispatcher_31 : InsA md_resetDispatcher 31 (.return_) 1 32 := ⟨by decide +kernel, rfl⟩
abbrev md_build : MD := (⟨"CyclicExecutive", "build", "(I)I"⟩, prog_1_method_15_code, 4, some .int, { frames := 2, cells := 0, slots := 0, locals := 42 }, 0)
theorem cv_build {Z : State} {a0 : Array Value} (H : OK Z a0) : CalV Z a0 md_build 1 := ⟨pn_CyclicExecutive, by decide, pd__I_I, H.w 70 rfl, H.w 72 rfl, H.w 2 rfl, Or.inl ⟨H.w 69 rfl, H.w 71 rfl⟩⟩
theorem o_build_0 : InsA md_build 0 (.aload_n 0) 1 1 := ⟨by decide +kernel, rfl⟩
theorem o_build_1 : InsA md_build 1 (.getfield 42) 3 4 := ⟨by decide +kernel, rfl⟩
theorem o_build_4 : InsB md_build 4 (.ifCond .ne 6) 3 7 (6) 10 := ⟨by decide +kernel, rfl, by decide, by decide⟩
theorem o_build_7 : InsA md_build 7 (.bipush (-4)) 2 9 := ⟨by decide +kernel, rfl⟩
theorem o_build_9 : InsA md_build 9 (.ireturn) 1 10 := ⟨by decide +kernel, rfl⟩
theorem o_build_10 : InsA md_build 10 (.aload_n 0) 1 11 := ⟨by decide +kernel, rfl⟩
theorem o_build_11 : InsA md_build 11 (.iload_n 1) 1 12 := ⟨by decide +kernel, rfl⟩
theorem o_build_12 : InsA md_build 12 (.invokevirtual 74) 3 15 := ⟨by decide +kernel, rfl⟩
theorem o_build_15 : InsB md_build 15 (.ifCond .ne 6) 3 18 (6) 21 := ⟨by decide +kernel, rfl, by decide, by decide⟩
theorem o_build_18 : InsA md_build 18 (.bipush (-5)) 2 20 := ⟨by decide +kernel, rfl⟩
theorem o_build_20 : InsA md_build 20 (.ireturn) 1 21 := ⟨by decide +kernel, rfl⟩
theorem o_build_21 : InsA md_build 21 (.aload_n 0) 1 22 := ⟨by decide +kernel, rfl⟩
theorem o_build_22 : InsA md_build 22 (.iload_n 1) 1 23 := ⟨by decide +kernel, rfl⟩
theorem o_build_23 : InsA md_build 23 (.invokevirtual 82) 3 26 := ⟨by decide +kernel, rfl⟩
theorem o_build_26 : InsB md_build 26 (.ifCond .ne 6) 3 29 (6) 32 := ⟨by decide +kernel, rfl, by decide, by decide⟩
theorem o_build_29 : InsA md_build 29 (.bipush (-6)) 2 31 := ⟨by decide +kernel, rfl⟩
theorem o_build_31 : InsA md_build 31 (.ireturn) 1 32 := ⟨by decide +kernel, rfl⟩
theorem o_build_32 : InsA md_build 32 (.aload_n 0) 1 33 := ⟨by decide +kernel, rfl⟩
theorem o_build_33 : InsA md_build 33 (.invokevirtual 88) 3 36 := ⟨by decide +kernel, rfl⟩
theorem o_build_36 : InsA md_build 36 (.iconst 0) 1 37 := ⟨by decide +kernel, rfl⟩
theorem o_build_37 : InsA md_build 37 (.istore_n 2) 1 38 := ⟨by decide +kernel, rfl⟩
theorem o_build_38 : InsA md_build 38 (.iload_n 2) 1 39 := ⟨by decide +kernel, rfl⟩
theorem o_build_39 : InsA md_build 39 (.sipush 128) 3 42 := ⟨by decide +kernel, rfl⟩
theorem o_build_42 : InsB md_build 42 (.if_icmp .ge 23) 3 45 (23) 65 := ⟨by decide +kernel, rfl, by decide, by decide⟩
theorem o_build_45 : InsA md_build 45 (.aload_n 0) 1 46 := ⟨by decide +kernel, rfl⟩
theorem o_build_46 : InsA md_build 46 (.getfield 22) 3 49 := ⟨by decide +kernel, rfl⟩
theorem o_build_49 : InsA md_build 49 (.iload_n 2) 1 50 := ⟨by decide +kernel, rfl⟩
theorem o_build_50 : InsA md_build 50 (.iconst (-1)) 1 51 := ⟨by decide +kernel, rfl⟩
theorem o_build_51 : InsA md_build 51 (.iastore) 1 52 := ⟨by decide +kernel, rfl⟩
theorem o_build_52 : InsA md_build 52 (.aload_n 0) 1 53 := ⟨by decide +kernel, rfl⟩
theorem o_build_53 : InsA md_build 53 (.getfield 25) 3 56 := ⟨by decide +kernel, rfl⟩
theorem o_build_56 : InsA md_build 56 (.iload_n 2) 1 57 := ⟨by decide +kernel, rfl⟩
theorem o_build_57 : InsA md_build 57 (.iconst (-1)) 1 58 := ⟨by decide +kernel, rfl⟩
theorem o_build_58 : InsA md_build 58 (.iastore) 1 59 := ⟨by decide +kernel, rfl⟩
theorem o_build_59 : InsA md_build 59 (.iinc 2 1) 3 62 := ⟨by decide +kernel, rfl⟩
theorem o_build_62 : InsB md_build 62 (.goto (-24)) 3 65 (-24) 38 := ⟨by decide +kernel, rfl, by decide, by decide⟩
theorem o_build_65 : InsA md_build 65 (.aload_n 0) 1 66 := ⟨by decide +kernel, rfl⟩
theorem o_build_66 : InsA md_build 66 (.getfield 45) 3 69 := ⟨by decide +kernel, rfl⟩
theorem o_build_69 : InsA md_build 69 (.iload_n 1) 1 70 := ⟨by decide +kernel, rfl⟩
theorem o_build_70 : InsA md_build 70 (.idiv) 1 71 := ⟨by decide +kernel, rfl⟩
theorem o_build_71 : InsA md_build 71 (.istore_n 2) 1 72 := ⟨by decide +kernel, rfl⟩
theorem o_build_72 : InsA md_build 72 (.iconst 0) 1 73 := ⟨by decide +kernel, rfl⟩
theorem o_build_73 : InsA md_build 73 (.istore_n 3) 1 74 := ⟨by decide +kernel, rfl⟩
theorem o_build_74 : InsA md_build 74 (.iload_n 3) 1 75 := ⟨by decide +kernel, rfl⟩
theorem o_build_75 : InsA md_build 75 (.iload_n 2) 1 76 := ⟨by decide +kernel, rfl⟩
theorem o_build_76 : InsB md_build 76 (.if_icmp .ge 15) 3 79 (15) 91 := ⟨by decide +kernel, rfl, by decide, by decide⟩
theorem o_build_79 : InsA md_build 79 (.aload_n 0) 1 80 := ⟨by decide +kernel, rfl⟩
theorem o_build_80 : InsA md_build 80 (.iload_n 3) 1 81 := ⟨by decide +kernel, rfl⟩
theorem o_build_81 : InsA md_build 81 (.iload_n 1) 1 82 := ⟨by decide +kernel, rfl⟩
theorem o_build_82 : InsA md_build 82 (.invokevirtual 91) 3 85 := ⟨by decide +kernel, rfl⟩
theorem o_build_85 : InsA md_build 85 (.iinc 3 1) 3 88 := ⟨by decide +kernel, rfl⟩
theorem o_build_88 : InsB md_build 88 (.goto (-14)) 3 91 (-14) 74 := ⟨by decide +kernel, rfl, by decide, by decide⟩
theorem o_build_91 : InsA md_build 91 (.aload_n 0) 1 92 := ⟨by decide +kernel, rfl⟩
theorem o_build_92 : InsA md_build 92 (.invokevirtual 95) 3 95 := ⟨by decide +kernel, rfl⟩
theorem o_build_95 : InsA md_build 95 (.istore_n 3) 1 96 := ⟨by decide +kernel, rfl⟩
theorem o_build_96 : InsA md_build 96 (.aload_n 0) 1 97 := ⟨by decide +kernel, rfl⟩
theorem o_build_97 : InsA md_build 97 (.invokevirtual 71) 3 100 := ⟨by decide +kernel, rfl⟩
theorem o_build_100 : InsA md_build 100 (.iload_n 3) 1 101 := ⟨by decide +kernel, rfl⟩
theorem o_build_101 : InsB md_build 101 (.ifCond .lt 21) 3 104 (21) 122 := ⟨by decide +kernel, rfl, by decide, by decide⟩
theorem o_build_104 : InsA md_build 104 (.aload_n 0) 1 105 := ⟨by decide +kernel, rfl⟩
theorem o_build_105 : InsA md_build 105 (.iconst 0) 1 106 := ⟨by decide +kernel, rfl⟩
theorem o_build_106 : InsA md_build 106 (.putfield 48) 3 109 := ⟨by decide +kernel, rfl⟩
theorem o_build_109 : InsA md_build 109 (.aload_n 0) 1 110 := ⟨by decide +kernel, rfl⟩
theorem o_build_110 : InsA md_build 110 (.iconst 0) 1 111 := ⟨by decide +kernel, rfl⟩
theorem o_build_111 : InsA md_build 111 (.putfield 52) 3 114 := ⟨by decide +kernel, rfl⟩
theorem o_build_114 : InsA md_build 114 (.aload_n 0) 1 115 := ⟨by decide +kernel, rfl⟩
theorem o_build_115 : InsA md_build 115 (.iload_n 3) 1 116 := ⟨by decide +kernel, rfl⟩
theorem o_build_116 : InsA md_build 116 (.putfield 55) 3 119 := ⟨by decide +kernel, rfl⟩
theorem o_build_119 : InsA md_build 119 (.bipush (-7)) 2 121 := ⟨by decide +kernel, rfl⟩
theorem o_build_121 : InsA md_build 121 (.ireturn) 1 122 := ⟨by decide +kernel, rfl⟩
theorem o_build_122 : InsA md_build 122 (.aload_n 0) 1 123 := ⟨by decide +kernel, rfl⟩
theorem o_build_123 : InsA md_build 123 (.iconst 1) 1 124 := ⟨by decide +kernel, rfl⟩
theorem o_build_124 : InsA md_build 124 (.putfield 48) 3 127 := ⟨by decide +kernel, rfl⟩
theorem o_build_127 : InsA md_build 127 (.aload_n 0) 1 128 := ⟨by decide +kernel, rfl⟩
theorem o_build_128 : InsA md_build 128 (.iload_n 1) 1 129 := ⟨by decide +kernel, rfl⟩
theorem o_build_129 : InsA md_build 129 (.putfield 52) 3 132 := ⟨by decide +kernel, rfl⟩
theorem o_build_132 : InsA md_build 132 (.aload_n 0) 1 133 := ⟨by decide +kernel, rfl⟩
theorem o_build_133 : InsA md_build 133 (.iconst (-1)) 1 134 := ⟨by decide +kernel, rfl⟩
theorem o_build_134 : InsA md_build 134 (.putfield 55) 3 137 := ⟨by decide +kernel, rfl⟩
theorem o_build_137 : InsA md_build 137 (.iconst 0) 1 138 := ⟨by decide +kernel, rfl⟩
theorem o_build_138 : InsA md_build 138 (.ireturn) 1 139 := ⟨by decide +kernel, rfl⟩
abbrev md_dividesHyper : MD := (⟨"CyclicExecutive", "dividesHyper", "(I)Z"⟩, prog_1_method_9_code, 2, some .boolean, { frames := 0, cells := 0, slots := 0, locals := 0 }, 0)
theorem cv_dividesHyper {Z : State} {a0 : Array Value} (H : OK Z a0) : CalV Z a0 md_dividesHyper 1 := ⟨pn_CyclicExecutive, by decide, pd__I_Z, H.w 74 rfl, H.w 76 rfl, H.w 2 rfl, Or.inr ⟨H.w 75 rfl, 16, H.w 1 rfl⟩⟩
theorem o_dividesHyper_0 : InsA md_dividesHyper 0 (.aload_n 0) 1 1 := ⟨by decide +kernel, rfl⟩
theorem o_dividesHyper_1 : InsA md_dividesHyper 1 (.getfield 42) 3 4 := ⟨by decide +kernel, rfl⟩
theorem o_dividesHyper_4 : InsB md_dividesHyper 4 (.ifCond .le 29) 3 7 (29) 33 := ⟨by decide +kernel, rfl, by decide, by decide⟩
theorem o_dividesHyper_7 : InsA md_dividesHyper 7 (.iload_n 1) 1 8 := ⟨by decide +kernel, rfl⟩
theorem o_dividesHyper_8 : InsA md_dividesHyper 8 (.iconst 1) 1 9 := ⟨by decide +kernel, rfl⟩
theorem o_dividesHyper_9 : InsB md_dividesHyper 9 (.if_icmp .lt 24) 3 12 (24) 33 := ⟨by decide +kernel, rfl, by decide, by decide⟩
theorem o_dividesHyper_12 : InsA md_dividesHyper 12 (.iload_n 1) 1 13 := ⟨by decide +kernel, rfl⟩
theorem o_dividesHyper_13 : InsA md_dividesHyper 13 (.aload_n 0) 1 14 := ⟨by decide +kernel, rfl⟩
theorem o_dividesHyper_14 : InsA md_dividesHyper 14 (.getfield 45) 3 17 := ⟨by decide +kernel, rfl⟩
theorem o_dividesHyper_17 : InsB md_dividesHyper 17 (.if_icmp .gt 16) 3 20 (16) 33 := ⟨by decide +kernel, rfl, by decide, by decide⟩
theorem o_dividesHyper_20 : InsA md_dividesHyper 20 (.aload_n 0) 1 21 := ⟨by decide +kernel, rfl⟩
theorem o_dividesHyper_21 : InsA md_dividesHyper 21 (.getfield 45) 3 24 := ⟨by decide +kernel, rfl⟩
theorem o_dividesHyper_24 : InsA md_dividesHyper 24 (.iload_n 1) 1 25 := ⟨by decide +kernel, rfl⟩
theorem o_dividesHyper_25 : InsA md_dividesHyper 25 (.irem) 1 26 := ⟨by decide +kernel, rfl⟩
theorem o_dividesHyper_26 : InsB md_dividesHyper 26 (.ifCond .ne 7) 3 29 (7) 33 := ⟨by decide +kernel, rfl, by decide, by decide⟩
theorem o_dividesHyper_29 : InsA md_dividesHyper 29 (.iconst 1) 1 30 := ⟨by decide +kernel, rfl⟩
theorem o_dividesHyper_30 : InsB md_dividesHyper 30 (.goto 4) 3 33 (4) 34 := ⟨by decide +kernel, rfl, by decide, by decide⟩
theorem o_dividesHyper_33 : InsA md_dividesHyper 33 (.iconst 0) 1 34 := ⟨by decide +kernel, rfl⟩
theorem o_dividesHyper_34 : InsA md_dividesHyper 34 (.ireturn) 1 35 := ⟨by decide +kernel, rfl⟩
abbrev md_deadlinesOk : MD := (⟨"CyclicExecutive", "deadlinesOk", "(I)Z"⟩, prog_1_method_11_code, 4, some .boolean, { frames := 1, cells := 0, slots := 0, locals := 18 }, 0)
theorem cv_deadlinesOk {Z : State} {a0 : Array Value} (H : OK Z a0) : CalV Z a0 md_deadlinesOk 1 := ⟨pn_CyclicExecutive, by decide, pd__I_Z, H.w 78 rfl, H.w 80 rfl, H.w 2 rfl, Or.inr ⟨H.w 79 rfl, 16, H.w 1 rfl⟩⟩
theorem o_deadlinesOk_0 : InsA md_deadlinesOk 0 (.iconst 0) 1 1 := ⟨by decide +kernel, rfl⟩
theorem o_deadlinesOk_1 : InsA md_deadlinesOk 1 (.istore_n 2) 1 2 := ⟨by decide +kernel, rfl⟩
theorem o_deadlinesOk_2 : InsA md_deadlinesOk 2 (.iload_n 2) 1 3 := ⟨by decide +kernel, rfl⟩
theorem o_deadlinesOk_3 : InsA md_deadlinesOk 3 (.aload_n 0) 1 4 := ⟨by decide +kernel, rfl⟩
theorem o_deadlinesOk_4 : InsA md_deadlinesOk 4 (.getfield 42) 3 7 := ⟨by decide +kernel, rfl⟩
theorem o_deadlinesOk_7 : InsB md_deadlinesOk 7 (.if_icmp .ge 37) 3 10 (37) 44 := ⟨by decide +kernel, rfl, by decide, by decide⟩
theorem o_deadlinesOk_10 : InsA md_deadlinesOk 10 (.aload_n 0) 1 11 := ⟨by decide +kernel, rfl⟩
theorem o_deadlinesOk_11 : InsA md_deadlinesOk 11 (.iload_n 1) 1 12 := ⟨by decide +kernel, rfl⟩
theorem o_deadlinesOk_12 : InsA md_deadlinesOk 12 (.aload_n 0) 1 13 := ⟨by decide +kernel, rfl⟩
theorem o_deadlinesOk_13 : InsA md_deadlinesOk 13 (.getfield 7) 3 16 := ⟨by decide +kernel, rfl⟩
theorem o_deadlinesOk_16 : InsA md_deadlinesOk 16 (.iload_n 2) 1 17 := ⟨by decide +kernel, rfl⟩
theorem o_deadlinesOk_17 : InsA md_deadlinesOk 17 (.iaload) 1 18 := ⟨by decide +kernel, rfl⟩
theorem o_deadlinesOk_18 : InsA md_deadlinesOk 18 (.invokevirtual 64) 3 21 := ⟨by decide +kernel, rfl⟩
theorem o_deadlinesOk_21 : InsA md_deadlinesOk 21 (.istore_n 3) 1 22 := ⟨by decide +kernel, rfl⟩
theorem o_deadlinesOk_22 : InsA md_deadlinesOk 22 (.iconst 2) 1 23 := ⟨by decide +kernel, rfl⟩
theorem o_deadlinesOk_23 : InsA md_deadlinesOk 23 (.iload_n 1) 1 24 := ⟨by decide +kernel, rfl⟩
theorem o_deadlinesOk_24 : InsA md_deadlinesOk 24 (.imul) 1 25 := ⟨by decide +kernel, rfl⟩
theorem o_deadlinesOk_25 : InsA md_deadlinesOk 25 (.iload_n 3) 1 26 := ⟨by decide +kernel, rfl⟩
theorem o_deadlinesOk_26 : InsA md_deadlinesOk 26 (.isub) 1 27 := ⟨by decide +kernel, rfl⟩
theorem o_deadlinesOk_27 : InsA md_deadlinesOk 27 (.aload_n 0) 1 28 := ⟨by decide +kernel, rfl⟩
theorem o_deadlinesOk_28 : InsA md_deadlinesOk 28 (.getfield 16) 3 31 := ⟨by decide +kernel, rfl⟩
theorem o_deadlinesOk_31 : InsA md_deadlinesOk 31 (.iload_n 2) 1 32 := ⟨by decide +kernel, rfl⟩
theorem o_deadlinesOk_32 : InsA md_deadlinesOk 32 (.iaload) 1 33 := ⟨by decide +kernel, rfl⟩
theorem o_deadlinesOk_33 : InsB md_deadlinesOk 33 (.if_icmp .le 5) 3 36 (5) 38 := ⟨by decide +kernel, rfl, by decide, by decide⟩
theorem o_deadlinesOk_36 : InsA md_deadlinesOk 36 (.iconst 0) 1 37 := ⟨by decide +kernel, rfl⟩
theorem o_deadlinesOk_37 : InsA md_deadlinesOk 37 (.ireturn) 1 38 := ⟨by decide +kernel, rfl⟩
theorem o_deadlinesOk_38 : InsA md_deadlinesOk 38 (.iinc 2 1) 3 41 := ⟨by decide +kernel, rfl⟩
theorem o_deadlinesOk_41 : InsB md_deadlinesOk 41 (.goto (-39)) 3 44 (-39) 2 := ⟨by decide +kernel, rfl, by decide, by decide⟩
theorem o_deadlinesOk_44 : InsA md_deadlinesOk 44 (.iconst 1) 1 45 := ⟨by decide +kernel, rfl⟩
theorem o_deadlinesOk_45 : InsA md_deadlinesOk 45 (.ireturn) 1 46 := ⟨by decide +kernel, rfl⟩
abbrev md_initJobs : MD := (⟨"CyclicExecutive", "initJobs", "()V"⟩, prog_1_method_16_code, 4, none, { frames := 0, cells := 0, slots := 0, locals := 0 }, 0)
theorem cv_initJobs {Z : State} {a0 : Array Value} (H : OK Z a0) : CalV Z a0 md_initJobs 0 := ⟨pn_CyclicExecutive, by decide, pd___V, H.w 82 rfl, H.w 84 rfl, H.w 2 rfl, Or.inr ⟨H.w 83 rfl, 16, H.w 1 rfl⟩⟩
theorem o_initJobs_0 : InsA md_initJobs 0 (.iconst 0) 1 1 := ⟨by decide +kernel, rfl⟩
theorem o_initJobs_1 : InsA md_initJobs 1 (.istore_n 1) 1 2 := ⟨by decide +kernel, rfl⟩
theorem o_initJobs_2 : InsA md_initJobs 2 (.iload_n 1) 1 3 := ⟨by decide +kernel, rfl⟩
theorem o_initJobs_3 : InsA md_initJobs 3 (.aload_n 0) 1 4 := ⟨by decide +kernel, rfl⟩
theorem o_initJobs_4 : InsA md_initJobs 4 (.getfield 42) 3 7 := ⟨by decide +kernel, rfl⟩
theorem o_initJobs_7 : InsB md_initJobs 7 (.if_icmp .ge 59) 3 10 (59) 66 := ⟨by decide +kernel, rfl, by decide, by decide⟩
theorem o_initJobs_10 : InsA md_initJobs 10 (.aload_n 0) 1 11 := ⟨by decide +kernel, rfl⟩
theorem o_initJobs_11 : InsA md_initJobs 11 (.getfield 45) 3 14 := ⟨by decide +kernel, rfl⟩
theorem o_initJobs_14 : InsA md_initJobs 14 (.aload_n 0) 1 15 := ⟨by decide +kernel, rfl⟩
theorem o_initJobs_15 : InsA md_initJobs 15 (.getfield 7) 3 18 := ⟨by decide +kernel, rfl⟩
theorem o_initJobs_18 : InsA md_initJobs 18 (.iload_n 1) 1 19 := ⟨by decide +kernel, rfl⟩
theorem o_initJobs_19 : InsA md_initJobs 19 (.iaload) 1 20 := ⟨by decide +kernel, rfl⟩
theorem o_initJobs_20 : InsA md_initJobs 20 (.idiv) 1 21 := ⟨by decide +kernel, rfl⟩
theorem o_initJobs_21 : InsA md_initJobs 21 (.istore_n 2) 1 22 := ⟨by decide +kernel, rfl⟩
theorem o_initJobs_22 : InsA md_initJobs 22 (.iconst 0) 1 23 := ⟨by decide +kernel, rfl⟩
theorem o_initJobs_23 : InsA md_initJobs 23 (.istore_n 3) 1 24 := ⟨by decide +kernel, rfl⟩
theorem o_initJobs_24 : InsA md_initJobs 24 (.iload_n 3) 1 25 := ⟨by decide +kernel, rfl⟩
theorem o_initJobs_25 : InsA md_initJobs 25 (.iload_n 2) 1 26 := ⟨by decide +kernel, rfl⟩
theorem o_initJobs_26 : InsB md_initJobs 26 (.if_icmp .ge 34) 3 29 (34) 60 := ⟨by decide +kernel, rfl, by decide, by decide⟩
theorem o_initJobs_29 : InsA md_initJobs 29 (.iload_n 3) 1 30 := ⟨by decide +kernel, rfl⟩
theorem o_initJobs_30 : InsA md_initJobs 30 (.sipush 128) 3 33 := ⟨by decide +kernel, rfl⟩
theorem o_initJobs_33 : InsB md_initJobs 33 (.if_icmp .ge 27) 3 36 (27) 60 := ⟨by decide +kernel, rfl, by decide, by decide⟩
theorem o_initJobs_36 : InsA md_initJobs 36 (.aload_n 0) 1 37 := ⟨by decide +kernel, rfl⟩
theorem o_initJobs_37 : InsA md_initJobs 37 (.getfield 28) 3 40 := ⟨by decide +kernel, rfl⟩
theorem o_initJobs_40 : InsA md_initJobs 40 (.iload_n 1) 1 41 := ⟨by decide +kernel, rfl⟩
theorem o_initJobs_41 : InsA md_initJobs 41 (.sipush 128) 3 44 := ⟨by decide +kernel, rfl⟩
theorem o_initJobs_44 : InsA md_initJobs 44 (.imul) 1 45 := ⟨by decide +kernel, rfl⟩
theorem o_initJobs_45 : InsA md_initJobs 45 (.iload_n 3) 1 46 := ⟨by decide +kernel, rfl⟩
theorem o_initJobs_46 : InsA md_initJobs 46 (.iadd) 1 47 := ⟨by decide +kernel, rfl⟩
theorem o_initJobs_47 : InsA md_initJobs 47 (.aload_n 0) 1 48 := ⟨by decide +kernel, rfl⟩
theorem o_initJobs_48 : InsA md_initJobs 48 (.getfield 13) 3 51 := ⟨by decide +kernel, rfl⟩
theorem o_initJobs_51 : InsA md_initJobs 51 (.iload_n 1) 1 52 := ⟨by decide +kernel, rfl⟩
theorem o_initJobs_52 : InsA md_initJobs 52 (.iaload) 1 53 := ⟨by decide +kernel, rfl⟩
theorem o_initJobs_53 : InsA md_initJobs 53 (.iastore) 1 54 := ⟨by decide +kernel, rfl⟩
theorem o_initJobs_54 : InsA md_initJobs 54 (.iinc 3 1) 3 57 := ⟨by decide +kernel, rfl⟩
theorem o_initJobs_57 : InsB md_initJobs 57 (.goto (-33)) 3 60 (-33) 24 := ⟨by decide +kernel, rfl, by decide, by decide⟩
theorem o_initJobs_60 : InsA md_initJobs 60 (.iinc 1 1) 3 63 := ⟨by decide +kernel, rfl⟩
theorem o_initJobs_63 : InsB md_initJobs 63 (.goto (-61)) 3 66 (-61) 2 := ⟨by decide +kernel, rfl, by decide, by decide⟩
theorem o_initJobs_66 : InsA md_initJobs 66 (.return_) 1 67 := ⟨by decide +kernel, rfl⟩
abbrev md_fillFrame : MD := (⟨"CyclicExecutive", "fillFrame", "(II)V"⟩, prog_1_method_17_code, 11, none, { frames := 1, cells := 0, slots := 0, locals := 20 }, 0)
theorem cv_fillFrame {Z : State} {a0 : Array Value} (H : OK Z a0) : CalV Z a0 md_fillFrame 2 := ⟨pn_CyclicExecutive, by decide, pd__II_V, H.w 86 rfl, H.w 88 rfl, H.w 2 rfl, Or.inr ⟨H.w 87 rfl, 16, H.w 1 rfl⟩⟩
theorem o_fillFrame_0 : InsA md_fillFrame 0 (.iload_n 1) 1 1 := ⟨by decide +kernel, rfl⟩
theorem o_fillFrame_1 : InsA md_fillFrame 1 (.iconst 1) 1 2 := ⟨by decide +kernel, rfl⟩
theorem o_fillFrame_2 : InsA md_fillFrame 2 (.iadd) 1 3 := ⟨by decide +kernel, rfl⟩
theorem o_fillFrame_3 : InsA md_fillFrame 3 (.iload_n 2) 1 4 := ⟨by decide +kernel, rfl⟩
theorem o_fillFrame_4 : InsA md_fillFrame 4 (.imul) 1 5 := ⟨by decide +kernel, rfl⟩
theorem o_fillFrame_5 : InsA md_fillFrame 5 (.istore_n 3) 1 6 := ⟨by decide +kernel, rfl⟩
theorem o_fillFrame_6 : InsA md_fillFrame 6 (.iload_n 1) 1 7 := ⟨by decide +kernel, rfl⟩
theorem o_fillFrame_7 : InsA md_fillFrame 7 (.iload_n 2) 1 8 := ⟨by decide +kernel, rfl⟩
theorem o_fillFrame_8 : InsA md_fillFrame 8 (.imul) 1 9 := ⟨by decide +kernel, rfl⟩
theorem o_fillFrame_9 : InsA md_fillFrame 9 (.istore 4) 2 11 := ⟨by decide +kernel, rfl⟩
theorem o_fillFrame_11 : InsA md_fillFrame 11 (.iconst 0) 1 12 := ⟨by decide +kernel, rfl⟩
theorem o_fillFrame_12 : InsA md_fillFrame 12 (.istore 5) 2 14 := ⟨by decide +kernel, rfl⟩
theorem o_fillFrame_14 : InsA md_fillFrame 14 (.iload 5) 2 16 := ⟨by decide +kernel, rfl⟩
theorem o_fillFrame_16 : InsA md_fillFrame 16 (.iload_n 2) 1 17 := ⟨by decide +kernel, rfl⟩
theorem o_fillFrame_17 : InsB md_fillFrame 17 (.if_icmp .ge 136) 3 20 (136) 153 := ⟨by decide +kernel, rfl, by decide, by decide⟩
theorem o_fillFrame_20 : InsA md_fillFrame 20 (.iload 4) 2 22 := ⟨by decide +kernel, rfl⟩
theorem o_fillFrame_22 : InsA md_fillFrame 22 (.iload_n 3) 1 23 := ⟨by decide +kernel, rfl⟩
theorem o_fillFrame_23 : InsB md_fillFrame 23 (.if_icmp .ge 130) 3 26 (130) 153 := ⟨by decide +kernel, rfl, by decide, by decide⟩
theorem o_fillFrame_26 : InsA md_fillFrame 26 (.aload_n 0) 1 27 := ⟨by decide +kernel, rfl⟩
theorem o_fillFrame_27 : InsA md_fillFrame 27 (.iload_n 1) 1 28 := ⟨by decide +kernel, rfl⟩
theorem o_fillFrame_28 : InsA md_fillFrame 28 (.iload_n 2) 1 29 := ⟨by decide +kernel, rfl⟩
theorem o_fillFrame_29 : InsA md_fillFrame 29 (.invokevirtual 98) 3 32 := ⟨by decide +kernel, rfl⟩
theorem o_fillFrame_32 : InsA md_fillFrame 32 (.istore 6) 2 34 := ⟨by decide +kernel, rfl⟩
theorem o_fillFrame_34 : InsA md_fillFrame 34 (.iload 6) 2 36 := ⟨by decide +kernel, rfl⟩
theorem o_fillFrame_36 : InsB md_fillFrame 36 (.ifCond .ge 6) 3 39 (6) 42 := ⟨by decide +kernel, rfl, by decide, by decide⟩
theorem o_fillFrame_39 : InsB md_fillFrame 39 (.goto 114) 3 42 (114) 153 := ⟨by decide +kernel, rfl, by decide, by decide⟩
theorem o_fillFrame_42 : InsA md_fillFrame 42 (.aload_n 0) 1 43 := ⟨by decide +kernel, rfl⟩
theorem o_fillFrame_43 : InsA md_fillFrame 43 (.getfield 28) 3 46 := ⟨by decide +kernel, rfl⟩
theorem o_fillFrame_46 : InsA md_fillFrame 46 (.iload 6) 2 48 := ⟨by decide +kernel, rfl⟩
theorem o_fillFrame_48 : InsA md_fillFrame 48 (.iaload) 1 49 := ⟨by decide +kernel, rfl⟩
theorem o_fillFrame_49 : InsA md_fillFrame 49 (.istore 7) 2 51 := ⟨by decide +kernel, rfl⟩
theorem o_fillFrame_51 : InsA md_fillFrame 51 (.iload_n 3) 1 52 := ⟨by decide +kernel, rfl⟩
theorem o_fillFrame_52 : InsA md_fillFrame 52 (.iload 4) 2 54 := ⟨by decide +kernel, rfl⟩
theorem o_fillFrame_54 : InsA md_fillFrame 54 (.isub) 1 55 := ⟨by decide +kernel, rfl⟩
theorem o_fillFrame_55 : InsA md_fillFrame 55 (.iload 7) 2 57 := ⟨by decide +kernel, rfl⟩
theorem o_fillFrame_57 : InsB md_fillFrame 57 (.if_icmp .ge 9) 3 60 (9) 66 := ⟨by decide +kernel, rfl, by decide, by decide⟩
theorem o_fillFrame_60 : InsA md_fillFrame 60 (.iload_n 3) 1 61 := ⟨by decide +kernel, rfl⟩
theorem o_fillFrame_61 : InsA md_fillFrame 61 (.iload 4) 2 63 := ⟨by decide +kernel, rfl⟩
theorem o_fillFrame_63 : InsA md_fillFrame 63 (.isub) 1 64 := ⟨by decide +kernel, rfl⟩
theorem o_fillFrame_64 : InsA md_fillFrame 64 (.istore 7) 2 66 := ⟨by decide +kernel, rfl⟩
theorem o_fillFrame_66 : InsA md_fillFrame 66 (.iload 6) 2 68 := ⟨by decide +kernel, rfl⟩
theorem o_fillFrame_68 : InsA md_fillFrame 68 (.sipush 128) 3 71 := ⟨by decide +kernel, rfl⟩
theorem o_fillFrame_71 : InsA md_fillFrame 71 (.idiv) 1 72 := ⟨by decide +kernel, rfl⟩
theorem o_fillFrame_72 : InsA md_fillFrame 72 (.istore 8) 2 74 := ⟨by decide +kernel, rfl⟩
theorem o_fillFrame_74 : InsA md_fillFrame 74 (.iload 6) 2 76 := ⟨by decide +kernel, rfl⟩
theorem o_fillFrame_76 : InsA md_fillFrame 76 (.sipush 128) 3 79 := ⟨by decide +kernel, rfl⟩
theorem o_fillFrame_79 : InsA md_fillFrame 79 (.irem) 1 80 := ⟨by decide +kernel, rfl⟩
theorem o_fillFrame_80 : InsA md_fillFrame 80 (.istore 9) 2 82 := ⟨by decide +kernel, rfl⟩
theorem o_fillFrame_82 : InsA md_fillFrame 82 (.iload 4) 2 84 := ⟨by decide +kernel, rfl⟩
theorem o_fillFrame_84 : InsA md_fillFrame 84 (.istore 10) 2 86 := ⟨by decide +kernel, rfl⟩
theorem o_fillFrame_86 : InsA md_fillFrame 86 (.iload 10) 2 88 := ⟨by decide +kernel, rfl⟩
theorem o_fillFrame_88 : InsA md_fillFrame 88 (.iload 4) 2 90 := ⟨by decide +kernel, rfl⟩
theorem o_fillFrame_90 : InsA md_fillFrame 90 (.iload 7) 2 92 := ⟨by decide +kernel, rfl⟩
theorem o_fillFrame_92 : InsA md_fillFrame 92 (.iadd) 1 93 := ⟨by decide +kernel, rfl⟩
theorem o_fillFrame_93 : InsB md_fillFrame 93 (.if_icmp .ge 35) 3 96 (35) 128 := ⟨by decide +kernel, rfl, by decide, by decide⟩
theorem o_fillFrame_96 : InsA md_fillFrame 96 (.iload 10) 2 98 := ⟨by decide +kernel, rfl⟩
theorem o_fillFrame_98 : InsA md_fillFrame 98 (.sipush 128) 3 101 := ⟨by decide +kernel, rfl⟩
theorem o_fillFrame_101 : InsB md_fillFrame 101 (.if_icmp .ge 27) 3 104 (27) 128 := ⟨by decide +kernel, rfl, by decide, by decide⟩
theorem o_fillFrame_104 : InsA md_fillFrame 104 (.aload_n 0) 1 105 := ⟨by decide +kernel, rfl⟩
theorem o_fillFrame_105 : InsA md_fillFrame 105 (.getfield 22) 3 108 := ⟨by decide +kernel, rfl⟩
theorem o_fillFrame_108 : InsA md_fillFrame 108 (.iload 10) 2 110 := ⟨by decide +kernel, rfl⟩
theorem o_fillFrame_110 : InsA md_fillFrame 110 (.iload 8) 2 112 := ⟨by decide +kernel, rfl⟩
theorem o_fillFrame_112 : InsA md_fillFrame 112 (.iastore) 1 113 := ⟨by decide +kernel, rfl⟩
theorem o_fillFrame_113 : InsA md_fillFrame 113 (.aload_n 0) 1 114 := ⟨by decide +kernel, rfl⟩
theorem o_fillFrame_114 : InsA md_fillFrame 114 (.getfield 25) 3 117 := ⟨by decide +kernel, rfl⟩
theorem o_fillFrame_117 : InsA md_fillFrame 117 (.iload 10) 2 119 := ⟨by decide +kernel, rfl⟩
theorem o_fillFrame_119 : InsA md_fillFrame 119 (.iload 9) 2 121 := ⟨by decide +kernel, rfl⟩
theorem o_fillFrame_121 : InsA md_fillFrame 121 (.iastore) 1 122 := ⟨by decide +kernel, rfl⟩
theorem o_fillFrame_122 : InsA md_fillFrame 122 (.iinc 10 1) 3 125 := ⟨by decide +kernel, rfl⟩
theorem o_fillFrame_125 : InsB md_fillFrame 125 (.goto (-39)) 3 128 (-39) 86 := ⟨by decide +kernel, rfl, by decide, by decide⟩
theorem o_fillFrame_128 : InsA md_fillFrame 128 (.aload_n 0) 1 129 := ⟨by decide +kernel, rfl⟩
theorem o_fillFrame_129 : InsA md_fillFrame 129 (.getfield 28) 3 132 := ⟨by decide +kernel, rfl⟩
theorem o_fillFrame_132 : InsA md_fillFrame 132 (.iload 6) 2 134 := ⟨by decide +kernel, rfl⟩
theorem o_fillFrame_134 : InsA md_fillFrame 134 (.dup2) 1 135 := ⟨by decide +kernel, rfl⟩
theorem o_fillFrame_135 : InsA md_fillFrame 135 (.iaload) 1 136 := ⟨by decide +kernel, rfl⟩
theorem o_fillFrame_136 : InsA md_fillFrame 136 (.iload 7) 2 138 := ⟨by decide +kernel, rfl⟩
theorem o_fillFrame_138 : InsA md_fillFrame 138 (.isub) 1 139 := ⟨by decide +kernel, rfl⟩
theorem o_fillFrame_139 : InsA md_fillFrame 139 (.iastore) 1 140 := ⟨by decide +kernel, rfl⟩
theorem o_fillFrame_140 : InsA md_fillFrame 140 (.iload 4) 2 142 := ⟨by decide +kernel, rfl⟩
theorem o_fillFrame_142 : InsA md_fillFrame 142 (.iload 7) 2 144 := ⟨by decide +kernel, rfl⟩
theorem o_fillFrame_144 : InsA md_fillFrame 144 (.iadd) 1 145 := ⟨by decide +kernel, rfl⟩
theorem o_fillFrame_145 : InsA md_fillFrame 145 (.istore 4) 2 147 := ⟨by decide +kernel, rfl⟩
theorem o_fillFrame_147 : InsA md_fillFrame 147 (.iinc 5 1) 3 150 := ⟨by decide +kernel, rfl⟩
theorem o_fillFrame_150 : InsB md_fillFrame 150 (.goto (-136)) 3 153 (-136) 14 := ⟨by decide +kernel, rfl, by decide, by decide⟩
theorem o_fillFrame_153 : InsA md_fillFrame 153 (.return_) 1 154 := ⟨by decide +kernel, rfl⟩
abbrev md_pickJob : MD := (⟨"CyclicExecutive", "pickJob", "(II)I"⟩, prog_1_method_18_code, 9, some .int, { frames := 0, cells := 0, slots := 0, locals := 0 }, 0)
theorem cv_pickJob {Z : State} {a0 : Array Value} (H : OK Z a0) : CalV Z a0 md_pickJob 2 := ⟨pn_CyclicExecutive, by decide, pd__II_I, H.w 90 rfl, H.w 92 rfl, H.w 2 rfl, Or.inr ⟨H.w 91 rfl, 16, H.w 1 rfl⟩⟩
theorem o_pickJob_0 : InsA md_pickJob 0 (.iconst (-1)) 1 1 := ⟨by decide +kernel, rfl⟩
theorem o_pickJob_1 : InsA md_pickJob 1 (.istore_n 3) 1 2 := ⟨by decide +kernel, rfl⟩
theorem o_pickJob_2 : InsA md_pickJob 2 (.iconst 0) 1 3 := ⟨by decide +kernel, rfl⟩
theorem o_pickJob_3 : InsA md_pickJob 3 (.istore 4) 2 5 := ⟨by decide +kernel, rfl⟩
theorem o_pickJob_5 : InsA md_pickJob 5 (.iconst 0) 1 6 := ⟨by decide +kernel, rfl⟩
theorem o_pickJob_6 : InsA md_pickJob 6 (.istore 5) 2 8 := ⟨by decide +kernel, rfl⟩
theorem o_pickJob_8 : InsA md_pickJob 8 (.iload 5) 2 10 := ⟨by decide +kernel, rfl⟩
theorem o_pickJob_10 : InsA md_pickJob 10 (.aload_n 0) 1 11 := ⟨by decide +kernel, rfl⟩
theorem o_pickJob_11 : InsA md_pickJob 11 (.getfield 42) 3 14 := ⟨by decide +kernel, rfl⟩
theorem o_pickJob_14 : InsB md_pickJob 14 (.if_icmp .ge 113) 3 17 (113) 127 := ⟨by decide +kernel, rfl, by decide, by decide⟩
theorem o_pickJob_17 : InsA md_pickJob 17 (.iload_n 1) 1 18 := ⟨by decide +kernel, rfl⟩
theorem o_pickJob_18 : InsA md_pickJob 18 (.iload_n 2) 1 19 := ⟨by decide +kernel, rfl⟩
theorem o_pickJob_19 : InsA md_pickJob 19 (.imul) 1 20 := ⟨by decide +kernel, rfl⟩
theorem o_pickJob_20 : InsA md_pickJob 20 (.aload_n 0) 1 21 := ⟨by decide +kernel, rfl⟩
theorem o_pickJob_21 : InsA md_pickJob 21 (.getfield 7) 3 24 := ⟨by decide +kernel, rfl⟩
theorem o_pickJob_24 : InsA md_pickJob 24 (.iload 5) 2 26 := ⟨by decide +kernel, rfl⟩
theorem o_pickJob_26 : InsA md_pickJob 26 (.iaload) 1 27 := ⟨by decide +kernel, rfl⟩
theorem o_pickJob_27 : InsA md_pickJob 27 (.idiv) 1 28 := ⟨by decide +kernel, rfl⟩
theorem o_pickJob_28 : InsA md_pickJob 28 (.istore 6) 2 30 := ⟨by decide +kernel, rfl⟩
theorem o_pickJob_30 : InsA md_pickJob 30 (.iload 6) 2 32 := ⟨by decide +kernel, rfl⟩
theorem o_pickJob_32 : InsB md_pickJob 32 (.ifCond .lt 89) 3 35 (89) 121 := ⟨by decide +kernel, rfl, by decide, by decide⟩
theorem o_pickJob_35 : InsA md_pickJob 35 (.iload 6) 2 37 := ⟨by decide +kernel, rfl⟩
theorem o_pickJob_37 : InsA md_pickJob 37 (.sipush 128) 3 40 := ⟨by decide +kernel, rfl⟩
theorem o_pickJob_40 : InsB md_pickJob 40 (.if_icmp .lt 6) 3 43 (6) 46 := ⟨by decide +kernel, rfl, by decide, by decide⟩
theorem o_pickJob_43 : InsB md_pickJob 43 (.goto 78) 3 46 (78) 121 := ⟨by decide +kernel, rfl, by decide, by decide⟩
theorem o_pickJob_46 : InsA md_pickJob 46 (.iload 6) 2 48 := ⟨by decide +kernel, rfl⟩
theorem o_pickJob_48 : InsA md_pickJob 48 (.aload_n 0) 1 49 := ⟨by decide +kernel, rfl⟩
theorem o_pickJob_49 : InsA md_pickJob 49 (.getfield 7) 3 52 := ⟨by decide +kernel, rfl⟩
theorem o_pickJob_52 : InsA md_pickJob 52 (.iload 5) 2 54 := ⟨by decide +kernel, rfl⟩
theorem o_pickJob_54 : InsA md_pickJob 54 (.iaload) 1 55 := ⟨by decide +kernel, rfl⟩
theorem o_pickJob_55 : InsA md_pickJob 55 (.imul) 1 56 := ⟨by decide +kernel, rfl⟩
theorem o_pickJob_56 : InsA md_pickJob 56 (.aload_n 0) 1 57 := ⟨by decide +kernel, rfl⟩
theorem o_pickJob_57 : InsA md_pickJob 57 (.getfield 16) 3 60 := ⟨by decide +kernel, rfl⟩
theorem o_pickJob_60 : InsA md_pickJob 60 (.iload 5) 2 62 := ⟨by decide +kernel, rfl⟩
theorem o_pickJob_62 : InsA md_pickJob 62 (.iaload) 1 63 := ⟨by decide +kernel, rfl⟩
theorem o_pickJob_63 : InsA md_pickJob 63 (.iadd) 1 64 := ⟨by decide +kernel, rfl⟩
theorem o_pickJob_64 : InsA md_pickJob 64 (.istore 7) 2 66 := ⟨by decide +kernel, rfl⟩
theorem o_pickJob_66 : InsA md_pickJob 66 (.iload_n 1) 1 67 := ⟨by decide +kernel, rfl⟩
theorem o_pickJob_67 : InsA md_pickJob 67 (.iconst 1) 1 68 := ⟨by decide +kernel, rfl⟩
theorem o_pickJob_68 : InsA md_pickJob 68 (.iadd) 1 69 := ⟨by decide +kernel, rfl⟩
theorem o_pickJob_69 : InsA md_pickJob 69 (.iload_n 2) 1 70 := ⟨by decide +kernel, rfl⟩
theorem o_pickJob_70 : InsA md_pickJob 70 (.imul) 1 71 := ⟨by decide +kernel, rfl⟩
theorem o_pickJob_71 : InsA md_pickJob 71 (.iload 7) 2 73 := ⟨by decide +kernel, rfl⟩
theorem o_pickJob_73 : InsB md_pickJob 73 (.if_icmp .le 6) 3 76 (6) 79 := ⟨by decide +kernel, rfl, by decide, by decide⟩
theorem o_pickJob_76 : InsB md_pickJob 76 (.goto 45) 3 79 (45) 121 := ⟨by decide +kernel, rfl, by decide, by decide⟩
theorem o_pickJob_79 : InsA md_pickJob 79 (.iload 5) 2 81 := ⟨by decide +kernel, rfl⟩
theorem o_pickJob_81 : InsA md_pickJob 81 (.sipush 128) 3 84 := ⟨by decide +kernel, rfl⟩
theorem o_pickJob_84 : InsA md_pickJob 84 (.imul) 1 85 := ⟨by decide +kernel, rfl⟩
theorem o_pickJob_85 : InsA md_pickJob 85 (.iload 6) 2 87 := ⟨by decide +kernel, rfl⟩
theorem o_pickJob_87 : InsA md_pickJob 87 (.iadd) 1 88 := ⟨by decide +kernel, rfl⟩
theorem o_pickJob_88 : InsA md_pickJob 88 (.istore 8) 2 90 := ⟨by decide +kernel, rfl⟩
theorem o_pickJob_90 : InsA md_pickJob 90 (.aload_n 0) 1 91 := ⟨by decide +kernel, rfl⟩
theorem o_pickJob_91 : InsA md_pickJob 91 (.getfield 28) 3 94 := ⟨by decide +kernel, rfl⟩
theorem o_pickJob_94 : InsA md_pickJob 94 (.iload 8) 2 96 := ⟨by decide +kernel, rfl⟩
theorem o_pickJob_96 : InsA md_pickJob 96 (.iaload) 1 97 := ⟨by decide +kernel, rfl⟩
theorem o_pickJob_97 : InsB md_pickJob 97 (.ifCond .gt 6) 3 100 (6) 103 := ⟨by decide +kernel, rfl, by decide, by decide⟩
theorem o_pickJob_100 : InsB md_pickJob 100 (.goto 21) 3 103 (21) 121 := ⟨by decide +kernel, rfl, by decide, by decide⟩
theorem o_pickJob_103 : InsA md_pickJob 103 (.iload_n 3) 1 104 := ⟨by decide +kernel, rfl⟩
theorem o_pickJob_104 : InsB md_pickJob 104 (.ifCond .lt 10) 3 107 (10) 114 := ⟨by decide +kernel, rfl, by decide, by decide⟩
theorem o_pickJob_107 : InsA md_pickJob 107 (.iload 7) 2 109 := ⟨by decide +kernel, rfl⟩
theorem o_pickJob_109 : InsA md_pickJob 109 (.iload 4) 2 111 := ⟨by decide +kernel, rfl⟩
theorem o_pickJob_111 : InsB md_pickJob 111 (.if_icmp .ge 10) 3 114 (10) 121 := ⟨by decide +kernel, rfl, by decide, by decide⟩
theorem o_pickJob_114 : InsA md_pickJob 114 (.iload 8) 2 116 := ⟨by decide +kernel, rfl⟩
theorem o_pickJob_116 : InsA md_pickJob 116 (.istore_n 3) 1 117 := ⟨by decide +kernel, rfl⟩
theorem o_pickJob_117 : InsA md_pickJob 117 (.iload 7) 2 119 := ⟨by decide +kernel, rfl⟩
theorem o_pickJob_119 : InsA md_pickJob 119 (.istore 4) 2 121 := ⟨by decide +kernel, rfl⟩
theorem o_pickJob_121 : InsA md_pickJob 121 (.iinc 5 1) 3 124 := ⟨by decide +kernel, rfl⟩
theorem o_pickJob_124 : InsB md_pickJob 124 (.goto (-116)) 3 127 (-116) 8 := ⟨by decide +kernel, rfl, by decide, by decide⟩
theorem o_pickJob_127 : InsA md_pickJob 127 (.iload_n 3) 1 128 := ⟨by decide +kernel, rfl⟩
theorem o_pickJob_128 : InsA md_pickJob 128 (.ireturn) 1 129 := ⟨by decide +kernel, rfl⟩
abbrev md_findMiss : MD := (⟨"CyclicExecutive", "findMiss", "()I"⟩, prog_1_method_19_code, 8, some .int, { frames := 0, cells := 0, slots := 0, locals := 0 }, 0)
theorem cv_findMiss {Z : State} {a0 : Array Value} (H : OK Z a0) : CalV Z a0 md_findMiss 0 := ⟨pn_CyclicExecutive, by decide, pd___I, H.w 94 rfl, H.w 96 rfl, H.w 2 rfl, Or.inr ⟨H.w 95 rfl, 16, H.w 1 rfl⟩⟩
theorem o_findMiss_0 : InsA md_findMiss 0 (.iconst (-1)) 1 1 := ⟨by decide +kernel, rfl⟩
theorem o_findMiss_1 : InsA md_findMiss 1 (.istore_n 1) 1 2 := ⟨by decide +kernel, rfl⟩
theorem o_findMiss_2 : InsA md_findMiss 2 (.iconst 0) 1 3 := ⟨by decide +kernel, rfl⟩
theorem o_findMiss_3 : InsA md_findMiss 3 (.istore_n 2) 1 4 := ⟨by decide +kernel, rfl⟩
theorem o_findMiss_4 : InsA md_findMiss 4 (.iconst 0) 1 5 := ⟨by decide +kernel, rfl⟩
theorem o_findMiss_5 : InsA md_findMiss 5 (.istore_n 3) 1 6 := ⟨by decide +kernel, rfl⟩
theorem o_findMiss_6 : InsA md_findMiss 6 (.iload_n 3) 1 7 := ⟨by decide +kernel, rfl⟩
theorem o_findMiss_7 : InsA md_findMiss 7 (.aload_n 0) 1 8 := ⟨by decide +kernel, rfl⟩
theorem o_findMiss_8 : InsA md_findMiss 8 (.getfield 42) 3 11 := ⟨by decide +kernel, rfl⟩
theorem o_findMiss_11 : InsB md_findMiss 11 (.if_icmp .ge 103) 3 14 (103) 114 := ⟨by decide +kernel, rfl, by decide, by decide⟩
theorem o_findMiss_14 : InsA md_findMiss 14 (.aload_n 0) 1 15 := ⟨by decide +kernel, rfl⟩
theorem o_findMiss_15 : InsA md_findMiss 15 (.getfield 45) 3 18 := ⟨by decide +kernel, rfl⟩
theorem o_findMiss_18 : InsA md_findMiss 18 (.aload_n 0) 1 19 := ⟨by decide +kernel, rfl⟩
theorem o_findMiss_19 : InsA md_findMiss 19 (.getfield 7) 3 22 := ⟨by decide +kernel, rfl⟩
theorem o_findMiss_22 : InsA md_findMiss 22 (.iload_n 3) 1 23 := ⟨by decide +kernel, rfl⟩
theorem o_findMiss_23 : InsA md_findMiss 23 (.iaload) 1 24 := ⟨by decide +kernel, rfl⟩
theorem o_findMiss_24 : InsA md_findMiss 24 (.idiv) 1 25 := ⟨by decide +kernel, rfl⟩
theorem o_findMiss_25 : InsA md_findMiss 25 (.istore 4) 2 27 := ⟨by decide +kernel, rfl⟩
theorem o_findMiss_27 : InsA md_findMiss 27 (.iconst 0) 1 28 := ⟨by decide +kernel, rfl⟩
theorem o_findMiss_28 : InsA md_findMiss 28 (.istore 5) 2 30 := ⟨by decide +kernel, rfl⟩
theorem o_findMiss_30 : InsA md_findMiss 30 (.iload 5) 2 32 := ⟨by decide +kernel, rfl⟩
theorem o_findMiss_32 : InsA md_findMiss 32 (.iload 4) 2 34 := ⟨by decide +kernel, rfl⟩
theorem o_findMiss_34 : InsB md_findMiss 34 (.if_icmp .ge 74) 3 37 (74) 108 := ⟨by decide +kernel, rfl, by decide, by decide⟩
theorem o_findMiss_37 : InsA md_findMiss 37 (.iload 5) 2 39 := ⟨by decide +kernel, rfl⟩
theorem o_findMiss_39 : InsA md_findMiss 39 (.sipush 128) 3 42 := ⟨by decide +kernel, rfl⟩
theorem o_findMiss_42 : InsB md_findMiss 42 (.if_icmp .ge 66) 3 45 (66) 108 := ⟨by decide +kernel, rfl, by decide, by decide⟩
theorem o_findMiss_45 : InsA md_findMiss 45 (.iload_n 3) 1 46 := ⟨by decide +kernel, rfl⟩
theorem o_findMiss_46 : InsA md_findMiss 46 (.sipush 128) 3 49 := ⟨by decide +kernel, rfl⟩
theorem o_findMiss_49 : InsA md_findMiss 49 (.imul) 1 50 := ⟨by decide +kernel, rfl⟩
theorem o_findMiss_50 : InsA md_findMiss 50 (.iload 5) 2 52 := ⟨by decide +kernel, rfl⟩
theorem o_findMiss_52 : InsA md_findMiss 52 (.iadd) 1 53 := ⟨by decide +kernel, rfl⟩
theorem o_findMiss_53 : InsA md_findMiss 53 (.istore 6) 2 55 := ⟨by decide +kernel, rfl⟩
theorem o_findMiss_55 : InsA md_findMiss 55 (.aload_n 0) 1 56 := ⟨by decide +kernel, rfl⟩
theorem o_findMiss_56 : InsA md_findMiss 56 (.getfield 28) 3 59 := ⟨by decide +kernel, rfl⟩
theorem o_findMiss_59 : InsA md_findMiss 59 (.iload 6) 2 61 := ⟨by decide +kernel, rfl⟩
theorem o_findMiss_61 : InsA md_findMiss 61 (.iaload) 1 62 := ⟨by decide +kernel, rfl⟩
theorem o_findMiss_62 : InsB md_findMiss 62 (.ifCond .gt 6) 3 65 (6) 68 := ⟨by decide +kernel, rfl, by decide, by decide⟩
theorem o_findMiss_65 : InsB md_findMiss 65 (.goto 37) 3 68 (37) 102 := ⟨by decide +kernel, rfl, by decide, by decide⟩
theorem o_findMiss_68 : InsA md_findMiss 68 (.iload 5) 2 70 := ⟨by decide +kernel, rfl⟩
theorem o_findMiss_70 : InsA md_findMiss 70 (.aload_n 0) 1 71 := ⟨by decide +kernel, rfl⟩
theorem o_findMiss_71 : InsA md_findMiss 71 (.getfield 7) 3 74 := ⟨by decide +kernel, rfl⟩
theorem o_findMiss_74 : InsA md_findMiss 74 (.iload_n 3) 1 75 := ⟨by decide +kernel, rfl⟩
theorem o_findMiss_75 : InsA md_findMiss 75 (.iaload) 1 76 := ⟨by decide +kernel, rfl⟩
theorem o_findMiss_76 : InsA md_findMiss 76 (.imul) 1 77 := ⟨by decide +kernel, rfl⟩
theorem o_findMiss_77 : InsA md_findMiss 77 (.aload_n 0) 1 78 := ⟨by decide +kernel, rfl⟩
theorem o_findMiss_78 : InsA md_findMiss 78 (.getfield 16) 3 81 := ⟨by decide +kernel, rfl⟩
theorem o_findMiss_81 : InsA md_findMiss 81 (.iload_n 3) 1 82 := ⟨by decide +kernel, rfl⟩
theorem o_findMiss_82 : InsA md_findMiss 82 (.iaload) 1 83 := ⟨by decide +kernel, rfl⟩
theorem o_findMiss_83 : InsA md_findMiss 83 (.iadd) 1 84 := ⟨by decide +kernel, rfl⟩
theorem o_findMiss_84 : InsA md_findMiss 84 (.istore 7) 2 86 := ⟨by decide +kernel, rfl⟩
theorem o_findMiss_86 : InsA md_findMiss 86 (.iload_n 1) 1 87 := ⟨by decide +kernel, rfl⟩
theorem o_findMiss_87 : InsB md_findMiss 87 (.ifCond .lt 9) 3 90 (9) 96 := ⟨by decide +kernel, rfl, by decide, by decide⟩
theorem o_findMiss_90 : InsA md_findMiss 90 (.iload 7) 2 92 := ⟨by decide +kernel, rfl⟩
theorem o_findMiss_92 : InsA md_findMiss 92 (.iload_n 2) 1 93 := ⟨by decide +kernel, rfl⟩
theorem o_findMiss_93 : InsB md_findMiss 93 (.if_icmp .ge 9) 3 96 (9) 102 := ⟨by decide +kernel, rfl, by decide, by decide⟩
theorem o_findMiss_96 : InsA md_findMiss 96 (.iload 6) 2 98 := ⟨by decide +kernel, rfl⟩
theorem o_findMiss_98 : InsA md_findMiss 98 (.istore_n 1) 1 99 := ⟨by decide +kernel, rfl⟩
theorem o_findMiss_99 : InsA md_findMiss 99 (.iload 7) 2 101 := ⟨by decide +kernel, rfl⟩
theorem o_findMiss_101 : InsA md_findMiss 101 (.istore_n 2) 1 102 := ⟨by decide +kernel, rfl⟩
theorem o_findMiss_102 : InsA md_findMiss 102 (.iinc 5 1) 3 105 := ⟨by decide +kernel, rfl⟩
theorem o_findMiss_105 : InsB md_findMiss 105 (.goto (-75)) 3 108 (-75) 30 := ⟨by decide +kernel, rfl, by decide, by decide⟩
theorem o_findMiss_108 : InsA md_findMiss 108 (.iinc 3 1) 3 111 := ⟨by decide +kernel, rfl⟩
theorem o_findMiss_111 : InsB md_findMiss 111 (.goto (-105)) 3 114 (-105) 6 := ⟨by decide +kernel, rfl, by decide, by decide⟩
theorem o_findMiss_114 : InsA md_findMiss 114 (.iload_n 1) 1 115 := ⟨by decide +kernel, rfl⟩
theorem o_findMiss_115 : InsA md_findMiss 115 (.ireturn) 1 116 := ⟨by decide +kernel, rfl⟩
abbrev md_getFrame : MD := (⟨"CyclicExecutive", "getFrame", "()I"⟩, prog_1_method_20_code, 1, some .int, { frames := 0, cells := 0, slots := 0, locals := 0 }, 0)
theorem cv_getFrame {Z : State} {a0 : Array Value} (H : OK Z a0) : CalV Z a0 md_getFrame 0 := ⟨pn_CyclicExecutive, by decide, pd___I, H.w 99 rfl, H.w 101 rfl, H.w 2 rfl, Or.inl ⟨H.w 98 rfl, H.w 100 rfl⟩⟩
theorem o_getFrame_0 : InsA md_getFrame 0 (.aload_n 0) 1 1 := ⟨by decide +kernel, rfl⟩
theorem o_getFrame_1 : InsA md_getFrame 1 (.getfield 48) 3 4 := ⟨by decide +kernel, rfl⟩
theorem o_getFrame_4 : InsB md_getFrame 4 (.ifCond .eq 10) 3 7 (10) 14 := ⟨by decide +kernel, rfl, by decide, by decide⟩
theorem o_getFrame_7 : InsA md_getFrame 7 (.aload_n 0) 1 8 := ⟨by decide +kernel, rfl⟩
theorem o_getFrame_8 : InsA md_getFrame 8 (.getfield 52) 3 11 := ⟨by decide +kernel, rfl⟩
theorem o_getFrame_11 : InsB md_getFrame 11 (.goto 4) 3 14 (4) 15 := ⟨by decide +kernel, rfl, by decide, by decide⟩
theorem o_getFrame_14 : InsA md_getFrame 14 (.iconst 0) 1 15 := ⟨by decide +kernel, rfl⟩
theorem o_getFrame_15 : InsA md_getFrame 15 (.ireturn) 1 16 := ⟨by decide +kernel, rfl⟩
abbrev md_getHyperperiod : MD := (⟨"CyclicExecutive", "getHyperperiod", "()I"⟩, prog_1_method_8_code, 1, some .int, { frames := 0, cells := 0, slots := 0, locals := 0 }, 0)
theorem cv_getHyperperiod {Z : State} {a0 : Array Value} (H : OK Z a0) : CalV Z a0 md_getHyperperiod 0 := ⟨pn_CyclicExecutive, by decide, pd___I, H.w 104 rfl, H.w 106 rfl, H.w 2 rfl, Or.inl ⟨H.w 103 rfl, H.w 105 rfl⟩⟩
theorem o_getHyperperiod_0 : InsA md_getHyperperiod 0 (.aload_n 0) 1 1 := ⟨by decide +kernel, rfl⟩
theorem o_getHyperperiod_1 : InsA md_getHyperperiod 1 (.getfield 42) 3 4 := ⟨by decide +kernel, rfl⟩
theorem o_getHyperperiod_4 : InsB md_getHyperperiod 4 (.ifCond .ne 7) 3 7 (7) 11 := ⟨by decide +kernel, rfl, by decide, by decide⟩
theorem o_getHyperperiod_7 : InsA md_getHyperperiod 7 (.iconst 0) 1 8 := ⟨by decide +kernel, rfl⟩
theorem o_getHyperperiod_8 : InsB md_getHyperperiod 8 (.goto 7) 3 11 (7) 15 := ⟨by decide +kernel, rfl, by decide, by decide⟩
theorem o_getHyperperiod_11 : InsA md_getHyperperiod 11 (.aload_n 0) 1 12 := ⟨by decide +kernel, rfl⟩
theorem o_getHyperperiod_12 : InsA md_getHyperperiod 12 (.getfield 45) 3 15 := ⟨by decide +kernel, rfl⟩
theorem o_getHyperperiod_15 : InsA md_getHyperperiod 15 (.ireturn) 1 16 := ⟨by decide +kernel, rfl⟩
abbrev md_getTaskCount : MD := (⟨"CyclicExecutive", "getTaskCount", "()I"⟩, prog_1_method_7_code, 1, some .int, { frames := 0, cells := 0, slots := 0, locals := 0 }, 0)
theorem cv_getTaskCount {Z : State} {a0 : Array Value} (H : OK Z a0) : CalV Z a0 md_getTaskCount 0 := ⟨pn_CyclicExecutive, by decide, pd___I, H.w 109 rfl, H.w 111 rfl, H.w 2 rfl, Or.inl ⟨H.w 108 rfl, H.w 110 rfl⟩⟩
theorem o_getTaskCount_0 : InsA md_getTaskCount 0 (.aload_n 0) 1 1 := ⟨by decide +kernel, rfl⟩
theorem o_getTaskCount_1 : InsA md_getTaskCount 1 (.getfield 42) 3 4 := ⟨by decide +kernel, rfl⟩
theorem o_getTaskCount_4 : InsA md_getTaskCount 4 (.ireturn) 1 5 := ⟨by decide +kernel, rfl⟩
abbrev md_getNow : MD := (⟨"CyclicExecutive", "getNow", "()I"⟩, prog_1_method_27_code, 1, some .int, { frames := 0, cells := 0, slots := 0, locals := 0 }, 0)
theorem cv_getNow {Z : State} {a0 : Array Value} (H : OK Z a0) : CalV Z a0 md_getNow 0 := ⟨pn_CyclicExecutive, by decide, pd___I, H.w 114 rfl, H.w 116 rfl, H.w 2 rfl, Or.inl ⟨H.w 113 rfl, H.w 115 rfl⟩⟩
theorem o_getNow_0 : InsA md_getNow 0 (.aload_n 0) 1 1 := ⟨by decide +kernel, rfl⟩
theorem o_getNow_1 : InsA md_getNow 1 (.getfield 58) 3 4 := ⟨by decide +kernel, rfl⟩
theorem o_getNow_4 : InsA md_getNow 4 (.ireturn) 1 5 := ⟨by decide +kernel, rfl⟩
abbrev md_getMiss : MD := (⟨"CyclicExecutive", "getMiss", "()I"⟩, prog_1_method_25_code, 1, some .int, { frames := 0, cells := 0, slots := 0, locals := 0 }, 0)
theorem cv_getMiss {Z : State} {a0 : Array Value} (H : OK Z a0) : CalV Z a0 md_getMiss 0 := ⟨pn_CyclicExecutive, by decide, pd___I, H.w 119 rfl, H.w 121 rfl, H.w 2 rfl, Or.inl ⟨H.w 118 rfl, H.w 120 rfl⟩⟩
theorem o_getMiss_0 : InsA md_getMiss 0 (.aload_n 0) 1 1 := ⟨by decide +kernel, rfl⟩
theorem o_getMiss_1 : InsA md_getMiss 1 (.getfield 55) 3 4 := ⟨by decide +kernel, rfl⟩
theorem o_getMiss_4 : InsA md_getMiss 4 (.ireturn) 1 5 := ⟨by decide +kernel, rfl⟩
abbrev md_L_tableSum : MD := (⟨"CyclicExecutiveL7", "tableSum", "(LCyclicExecutive;I)J"⟩, method_2_code, 5, some .long, { frames := 2, cells := 0, slots := 0, locals := 28 }, 0)
theorem cv_L_tableSum {Z : State} {a0 : Array Value} (H : OK Z a0) : CalS Z a0 md_L_tableSum 2 := ⟨pn_CyclicExecutiveL7, by decide, pd__LCyclicExecutive_I_J, H.w 123 rfl, H.w 125 rfl, H.w 124 rfl⟩
theorem o_L_tableSum_0 : InsA md_L_tableSum 0 (.lconst 0) 1 1 := ⟨by decide +kernel, rfl⟩
theorem o_L_tableSum_1 : InsA md_L_tableSum 1 (.lstore_n 2) 1 2 := ⟨by decide +kernel, rfl⟩
theorem o_L_tableSum_2 : InsA md_L_tableSum 2 (.iconst (-1)) 1 3 := ⟨by decide +kernel, rfl⟩
theorem o_L_tableSum_3 : InsA md_L_tableSum 3 (.istore 4) 2 5 := ⟨by decide +kernel, rfl⟩
theorem o_L_tableSum_5 : InsA md_L_tableSum 5 (.iload 4) 2 7 := ⟨by decide +kernel, rfl⟩
theorem o_L_tableSum_7 : InsA md_L_tableSum 7 (.iload_n 1) 1 8 := ⟨by decide +kernel, rfl⟩
theorem o_L_tableSum_8 : InsB md_L_tableSum 8 (.if_icmp .gt 43) 3 11 (43) 51 := ⟨by decide +kernel, rfl, by decide, by decide⟩
theorem o_L_tableSum_11 : InsA md_L_tableSum 11 (.iload 4) 2 13 := ⟨by decide +kernel, rfl⟩
theorem o_L_tableSum_13 : InsA md_L_tableSum 13 (.sipush 130) 3 16 := ⟨by decide +kernel, rfl⟩
theorem o_L_tableSum_16 : InsB md_L_tableSum 16 (.if_icmp .ge 35) 3 19 (35) 51 := ⟨by decide +kernel, rfl, by decide, by decide⟩
theorem o_L_tableSum_19 : InsA md_L_tableSum 19 (.lload_n 2) 1 20 := ⟨by decide +kernel, rfl⟩
theorem o_L_tableSum_20 : InsA md_L_tableSum 20 (.ldc2_w 7) 3 23 := ⟨by decide +kernel, rfl⟩
theorem o_L_tableSum_23 : InsA md_L_tableSum 23 (.lmul) 1 24 := ⟨by decide +kernel, rfl⟩
theorem o_L_tableSum_24 : InsA md_L_tableSum 24 (.aload_n 0) 1 25 := ⟨by decide +kernel, rfl⟩
theorem o_L_tableSum_25 : InsA md_L_tableSum 25 (.iload 4) 2 27 := ⟨by decide +kernel, rfl⟩
theorem o_L_tableSum_27 : InsA md_L_tableSum 27 (.invokevirtual 9) 3 30 := ⟨by decide +kernel, rfl⟩
theorem o_L_tableSum_30 : InsA md_L_tableSum 30 (.i2l) 1 31 := ⟨by decide +kernel, rfl⟩
theorem o_L_tableSum_31 : InsA md_L_tableSum 31 (.ldc2_w 15) 3 34 := ⟨by decide +kernel, rfl⟩
theorem o_L_tableSum_34 : InsA md_L_tableSum 34 (.lmul) 1 35 := ⟨by decide +kernel, rfl⟩
theorem o_L_tableSum_35 : InsA md_L_tableSum 35 (.ladd) 1 36 := ⟨by decide +kernel, rfl⟩
theorem o_L_tableSum_36 : InsA md_L_tableSum 36 (.aload_n 0) 1 37 := ⟨by decide +kernel, rfl⟩
theorem o_L_tableSum_37 : InsA md_L_tableSum 37 (.iload 4) 2 39 := ⟨by decide +kernel, rfl⟩
theorem o_L_tableSum_39 : InsA md_L_tableSum 39 (.invokevirtual 17) 3 42 := ⟨by decide +kernel, rfl⟩
theorem o_L_tableSum_42 : InsA md_L_tableSum 42 (.i2l) 1 43 := ⟨by decide +kernel, rfl⟩
theorem o_L_tableSum_43 : InsA md_L_tableSum 43 (.ladd) 1 44 := ⟨by decide +kernel, rfl⟩
theorem o_L_tableSum_44 : InsA md_L_tableSum 44 (.lstore_n 2) 1 45 := ⟨by decide +kernel, rfl⟩
theorem o_L_tableSum_45 : InsA md_L_tableSum 45 (.iinc 4 1) 3 48 := ⟨by decide +kernel, rfl⟩
theorem o_L_tableSum_48 : InsB md_L_tableSum 48 (.goto (-43)) 3 51 (-43) 5 := ⟨by decide +kernel, rfl, by decide, by decide⟩
theorem o_L_tableSum_51 : InsA md_L_tableSum 51 (.lload_n 2) 1 52 := ⟨by decide +kernel, rfl⟩
theorem o_L_tableSum_52 : InsA md_L_tableSum 52 (.lreturn) 1 53 := ⟨by decide +kernel, rfl⟩
abbrev md_getTickTask : MD := (⟨"CyclicExecutive", "getTickTask", "(I)I"⟩, prog_1_method_22_code, 2, some .int, { frames := 1, cells := 0, slots := 0, locals := 13 }, 0)
theorem cv_getTickTask {Z : State} {a0 : Array Value} (H : OK Z a0) : CalV Z a0 md_getTickTask 1 := ⟨pn_CyclicExecutive, by decide, pd__I_I, H.w 129 rfl, H.w 131 rfl, H.w 2 rfl, Or.inl ⟨H.w 128 rfl, H.w 130 rfl⟩⟩
theorem o_getTickTask_0 : InsA md_getTickTask 0 (.aload_n 0) 1 1 := ⟨by decide +kernel, rfl⟩
theorem o_getTickTask_1 : InsA md_getTickTask 1 (.iload_n 1) 1 2 := ⟨by decide +kernel, rfl⟩
theorem o_getTickTask_2 : InsA md_getTickTask 2 (.invokevirtual 101) 3 5 := ⟨by decide +kernel, rfl⟩
theorem o_getTickTask_5 : InsB md_getTickTask 5 (.ifCond .ne 5) 3 8 (5) 10 := ⟨by decide +kernel, rfl, by decide, by decide⟩
theorem o_getTickTask_8 : InsA md_getTickTask 8 (.iconst (-1)) 1 9 := ⟨by decide +kernel, rfl⟩
theorem o_getTickTask_9 : InsA md_getTickTask 9 (.ireturn) 1 10 := ⟨by decide +kernel, rfl⟩
theorem o_getTickTask_10 : InsA md_getTickTask 10 (.aload_n 0) 1 11 := ⟨by decide +kernel, rfl⟩
theorem o_getTickTask_11 : InsA md_getTickTask 11 (.getfield 22) 3 14 := ⟨by decide +kernel, rfl⟩
theorem o_getTickTask_14 : InsA md_getTickTask 14 (.iload_n 1) 1 15 := ⟨by decide +kernel, rfl⟩
theorem o_getTickTask_15 : InsA md_getTickTask 15 (.iaload) 1 16 := ⟨by decide +kernel, rfl⟩
theorem o_getTickTask_16 : InsA md_getTickTask 16 (.ireturn) 1 17 := ⟨by decide +kernel, rfl⟩
abbrev md_validTick : MD := (⟨"CyclicExecutive", "validTick", "(I)Z"⟩, prog_1_method_21_code, 2, some .boolean, { frames := 0, cells := 0, slots := 0, locals := 0 }, 0)
theorem cv_validTick {Z : State} {a0 : Array Value} (H : OK Z a0) : CalV Z a0 md_validTick 1 := ⟨pn_CyclicExecutive, by decide, pd__I_Z, H.w 133 rfl, H.w 135 rfl, H.w 2 rfl, Or.inr ⟨H.w 134 rfl, 16, H.w 1 rfl⟩⟩
theorem o_validTick_0 : InsA md_validTick 0 (.aload_n 0) 1 1 := ⟨by decide +kernel, rfl⟩
theorem o_validTick_1 : InsA md_validTick 1 (.getfield 48) 3 4 := ⟨by decide +kernel, rfl⟩
theorem o_validTick_4 : InsB md_validTick 4 (.ifCond .eq 26) 3 7 (26) 30 := ⟨by decide +kernel, rfl, by decide, by decide⟩
theorem o_validTick_7 : InsA md_validTick 7 (.iload_n 1) 1 8 := ⟨by decide +kernel, rfl⟩
theorem o_validTick_8 : InsB md_validTick 8 (.ifCond .lt 22) 3 11 (22) 30 := ⟨by decide +kernel, rfl, by decide, by decide⟩
theorem o_validTick_11 : InsA md_validTick 11 (.iload_n 1) 1 12 := ⟨by decide +kernel, rfl⟩
theorem o_validTick_12 : InsA md_validTick 12 (.aload_n 0) 1 13 := ⟨by decide +kernel, rfl⟩
theorem o_validTick_13 : InsA md_validTick 13 (.getfield 45) 3 16 := ⟨by decide +kernel, rfl⟩
theorem o_validTick_16 : InsB md_validTick 16 (.if_icmp .ge 14) 3 19 (14) 30 := ⟨by decide +kernel, rfl, by decide, by decide⟩
theorem o_validTick_19 : InsA md_validTick 19 (.iload_n 1) 1 20 := ⟨by decide +kernel, rfl⟩
theorem o_validTick_20 : InsA md_validTick 20 (.sipush 128) 3 23 := ⟨by decide +kernel, rfl⟩
theorem o_validTick_23 : InsB md_validTick 23 (.if_icmp .ge 7) 3 26 (7) 30 := ⟨by decide +kernel, rfl, by decide, by decide⟩
theorem o_validTick_26 : InsA md_validTick 26 (.iconst 1) 1 27 := ⟨by decide +kernel, rfl⟩
theorem o_validTick_27 : InsB md_validTick 27 (.goto 4) 3 30 (4) 31 := ⟨by decide +kernel, rfl, by decide, by decide⟩
theorem o_validTick_30 : InsA md_validTick 30 (.iconst 0) 1 31 := ⟨by decide +kernel, rfl⟩
theorem o_validTick_31 : InsA md_validTick 31 (.ireturn) 1 32 := ⟨by decide +kernel, rfl⟩
abbrev md_getTickJob : MD := (⟨"CyclicExecutive", "getTickJob", "(I)I"⟩, prog_1_method_23_code, 2, some .int, { frames := 1, cells := 0, slots := 0, locals := 13 }, 0)
theorem cv_getTickJob {Z : State} {a0 : Array Value} (H : OK Z a0) : CalV Z a0 md_getTickJob 1 := ⟨pn_CyclicExecutive, by decide, pd__I_I, H.w 139 rfl, H.w 141 rfl, H.w 2 rfl, Or.inl ⟨H.w 138 rfl, H.w 140 rfl⟩⟩
theorem o_getTickJob_0 : InsA md_getTickJob 0 (.aload_n 0) 1 1 := ⟨by decide +kernel, rfl⟩
theorem o_getTickJob_1 : InsA md_getTickJob 1 (.iload_n 1) 1 2 := ⟨by decide +kernel, rfl⟩
theorem o_getTickJob_2 : InsA md_getTickJob 2 (.invokevirtual 101) 3 5 := ⟨by decide +kernel, rfl⟩
theorem o_getTickJob_5 : InsB md_getTickJob 5 (.ifCond .ne 5) 3 8 (5) 10 := ⟨by decide +kernel, rfl, by decide, by decide⟩
theorem o_getTickJob_8 : InsA md_getTickJob 8 (.iconst (-1)) 1 9 := ⟨by decide +kernel, rfl⟩
theorem o_getTickJob_9 : InsA md_getTickJob 9 (.ireturn) 1 10 := ⟨by decide +kernel, rfl⟩
theorem o_getTickJob_10 : InsA md_getTickJob 10 (.aload_n 0) 1 11 := ⟨by decide +kernel, rfl⟩
theorem o_getTickJob_11 : InsA md_getTickJob 11 (.getfield 25) 3 14 := ⟨by decide +kernel, rfl⟩
theorem o_getTickJob_14 : InsA md_getTickJob 14 (.iload_n 1) 1 15 := ⟨by decide +kernel, rfl⟩
theorem o_getTickJob_15 : InsA md_getTickJob 15 (.iaload) 1 16 := ⟨by decide +kernel, rfl⟩
theorem o_getTickJob_16 : InsA md_getTickJob 16 (.ireturn) 1 17 := ⟨by decide +kernel, rfl⟩
abbrev md_L_runSum : MD := (⟨"CyclicExecutiveL7", "runSum", "(LCyclicExecutive;I)J"⟩, method_3_code, 5, some .long, { frames := 1, cells := 0, slots := 0, locals := 15 }, 0)
theorem cv_L_runSum {Z : State} {a0 : Array Value} (H : OK Z a0) : CalS Z a0 md_L_runSum 2 := ⟨pn_CyclicExecutiveL7, by decide, pd__LCyclicExecutive_I_J, H.w 143 rfl, H.w 144 rfl, H.w 124 rfl⟩
theorem o_L_runSum_0 : InsA md_L_runSum 0 (.lconst 0) 1 1 := ⟨by decide +kernel, rfl⟩
theorem o_L_runSum_1 : InsA md_L_runSum 1 (.lstore_n 2) 1 2 := ⟨by decide +kernel, rfl⟩
theorem o_L_runSum_2 : InsA md_L_runSum 2 (.iconst 0) 1 3 := ⟨by decide +kernel, rfl⟩
theorem o_L_runSum_3 : InsA md_L_runSum 3 (.istore 4) 2 5 := ⟨by decide +kernel, rfl⟩
theorem o_L_runSum_5 : InsA md_L_runSum 5 (.iload 4) 2 7 := ⟨by decide +kernel, rfl⟩
theorem o_L_runSum_7 : InsA md_L_runSum 7 (.iload_n 1) 1 8 := ⟨by decide +kernel, rfl⟩
theorem o_L_runSum_8 : InsB md_L_runSum 8 (.if_icmp .ge 32) 3 11 (32) 40 := ⟨by decide +kernel, rfl, by decide, by decide⟩
theorem o_L_runSum_11 : InsA md_L_runSum 11 (.iload 4) 2 13 := ⟨by decide +kernel, rfl⟩
theorem o_L_runSum_13 : InsA md_L_runSum 13 (.bipush 8) 2 15 := ⟨by decide +kernel, rfl⟩
theorem o_L_runSum_15 : InsB md_L_runSum 15 (.if_icmp .ge 25) 3 18 (25) 40 := ⟨by decide +kernel, rfl, by decide, by decide⟩
theorem o_L_runSum_18 : InsA md_L_runSum 18 (.lload_n 2) 1 19 := ⟨by decide +kernel, rfl⟩
theorem o_L_runSum_19 : InsA md_L_runSum 19 (.aload_n 0) 1 20 := ⟨by decide +kernel, rfl⟩
theorem o_L_runSum_20 : InsA md_L_runSum 20 (.iload 4) 2 22 := ⟨by decide +kernel, rfl⟩
theorem o_L_runSum_22 : InsA md_L_runSum 22 (.invokevirtual 20) 3 25 := ⟨by decide +kernel, rfl⟩
theorem o_L_runSum_25 : InsA md_L_runSum 25 (.i2l) 1 26 := ⟨by decide +kernel, rfl⟩
theorem o_L_runSum_26 : InsA md_L_runSum 26 (.bipush 16) 2 28 := ⟨by decide +kernel, rfl⟩
theorem o_L_runSum_28 : InsA md_L_runSum 28 (.iload 4) 2 30 := ⟨by decide +kernel, rfl⟩
theorem o_L_runSum_30 : InsA md_L_runSum 30 (.imul) 1 31 := ⟨by decide +kernel, rfl⟩
theorem o_L_runSum_31 : InsA md_L_runSum 31 (.lshl) 1 32 := ⟨by decide +kernel, rfl⟩
theorem o_L_runSum_32 : InsA md_L_runSum 32 (.ladd) 1 33 := ⟨by decide +kernel, rfl⟩
theorem o_L_runSum_33 : InsA md_L_runSum 33 (.lstore_n 2) 1 34 := ⟨by decide +kernel, rfl⟩
theorem o_L_runSum_34 : InsA md_L_runSum 34 (.iinc 4 1) 3 37 := ⟨by decide +kernel, rfl⟩
theorem o_L_runSum_37 : InsB md_L_runSum 37 (.goto (-32)) 3 40 (-32) 5 := ⟨by decide +kernel, rfl, by decide, by decide⟩
theorem o_L_runSum_40 : InsA md_L_runSum 40 (.lload_n 2) 1 41 := ⟨by decide +kernel, rfl⟩
theorem o_L_runSum_41 : InsA md_L_runSum 41 (.lreturn) 1 42 := ⟨by decide +kernel, rfl⟩
abbrev md_getRunTicks : MD := (⟨"CyclicExecutive", "getRunTicks", "(I)I"⟩, prog_1_method_28_code, 2, some .int, { frames := 0, cells := 0, slots := 0, locals := 0 }, 0)
theorem cv_getRunTicks {Z : State} {a0 : Array Value} (H : OK Z a0) : CalV Z a0 md_getRunTicks 1 := ⟨pn_CyclicExecutive, by decide, pd__I_I, H.w 147 rfl, H.w 149 rfl, H.w 2 rfl, Or.inl ⟨H.w 146 rfl, H.w 148 rfl⟩⟩
theorem o_getRunTicks_0 : InsA md_getRunTicks 0 (.iload_n 1) 1 1 := ⟨by decide +kernel, rfl⟩
theorem o_getRunTicks_1 : InsB md_getRunTicks 1 (.ifCond .lt 11) 3 4 (11) 12 := ⟨by decide +kernel, rfl, by decide, by decide⟩
theorem o_getRunTicks_4 : InsA md_getRunTicks 4 (.iload_n 1) 1 5 := ⟨by decide +kernel, rfl⟩
theorem o_getRunTicks_5 : InsA md_getRunTicks 5 (.aload_n 0) 1 6 := ⟨by decide +kernel, rfl⟩
theorem o_getRunTicks_6 : InsA md_getRunTicks 6 (.getfield 42) 3 9 := ⟨by decide +kernel, rfl⟩
theorem o_getRunTicks_9 : InsB md_getRunTicks 9 (.if_icmp .lt 5) 3 12 (5) 14 := ⟨by decide +kernel, rfl, by decide, by decide⟩
theorem o_getRunTicks_12 : InsA md_getRunTicks 12 (.iconst (-1)) 1 13 := ⟨by decide +kernel, rfl⟩
theorem o_getRunTicks_13 : InsA md_getRunTicks 13 (.ireturn) 1 14 := ⟨by decide +kernel, rfl⟩
theorem o_getRunTicks_14 : InsA md_getRunTicks 14 (.aload_n 0) 1 15 := ⟨by decide +kernel, rfl⟩
theorem o_getRunTicks_15 : InsA md_getRunTicks 15 (.getfield 19) 3 18 := ⟨by decide +kernel, rfl⟩
theorem o_getRunTicks_18 : InsA md_getRunTicks 18 (.iload_n 1) 1 19 := ⟨by decide +kernel, rfl⟩
theorem o_getRunTicks_19 : InsA md_getRunTicks 19 (.iaload) 1 20 := ⟨by decide +kernel, rfl⟩
theorem o_getRunTicks_20 : InsA md_getRunTicks 20 (.ireturn) 1 21 := ⟨by decide +kernel, rfl⟩
abbrev md_L_cycleSum : MD := (⟨"CyclicExecutiveL7", "cycleSum", "(LCyclicExecutive;II)J"⟩, method_4_code, 7, some .long, { frames := 2, cells := 0, slots := 0, locals := 26 }, 0)
theorem cv_L_cycleSum {Z : State} {a0 : Array Value} (H : OK Z a0) : CalS Z a0 md_L_cycleSum 3 := ⟨pn_CyclicExecutiveL7, by decide, pd__LCyclicExecutive_II_J, H.w 151 rfl, H.w 152 rfl, H.w 124 rfl⟩
theorem o_L_cycleSum_0 : InsA md_L_cycleSum 0 (.lconst 0) 1 1 := ⟨by decide +kernel, rfl⟩
theorem o_L_cycleSum_1 : InsA md_L_cycleSum 1 (.lstore_n 3) 1 2 := ⟨by decide +kernel, rfl⟩
theorem o_L_cycleSum_2 : InsA md_L_cycleSum 2 (.iconst 0) 1 3 := ⟨by decide +kernel, rfl⟩
theorem o_L_cycleSum_3 : InsA md_L_cycleSum 3 (.istore 5) 2 5 := ⟨by decide +kernel, rfl⟩
theorem o_L_cycleSum_5 : InsA md_L_cycleSum 5 (.iload 5) 2 7 := ⟨by decide +kernel, rfl⟩
theorem o_L_cycleSum_7 : InsA md_L_cycleSum 7 (.iload_n 2) 1 8 := ⟨by decide +kernel, rfl⟩
theorem o_L_cycleSum_8 : InsB md_L_cycleSum 8 (.if_icmp .ge 46) 3 11 (46) 54 := ⟨by decide +kernel, rfl, by decide, by decide⟩
theorem o_L_cycleSum_11 : InsA md_L_cycleSum 11 (.iload 5) 2 13 := ⟨by decide +kernel, rfl⟩
theorem o_L_cycleSum_13 : InsA md_L_cycleSum 13 (.sipush 129) 3 16 := ⟨by decide +kernel, rfl⟩
theorem o_L_cycleSum_16 : InsB md_L_cycleSum 16 (.if_icmp .ge 38) 3 19 (38) 54 := ⟨by decide +kernel, rfl, by decide, by decide⟩
theorem o_L_cycleSum_19 : InsA md_L_cycleSum 19 (.aload_n 0) 1 20 := ⟨by decide +kernel, rfl⟩
theorem o_L_cycleSum_20 : InsA md_L_cycleSum 20 (.iload 5) 2 22 := ⟨by decide +kernel, rfl⟩
theorem o_L_cycleSum_22 : InsA md_L_cycleSum 22 (.invokevirtual 9) 3 25 := ⟨by decide +kernel, rfl⟩
theorem o_L_cycleSum_25 : InsA md_L_cycleSum 25 (.istore 6) 2 27 := ⟨by decide +kernel, rfl⟩
theorem o_L_cycleSum_27 : InsA md_L_cycleSum 27 (.iload 6) 2 29 := ⟨by decide +kernel, rfl⟩
theorem o_L_cycleSum_29 : InsB md_L_cycleSum 29 (.ifCond .lt 19) 3 32 (19) 48 := ⟨by decide +kernel, rfl, by decide, by decide⟩
theorem o_L_cycleSum_32 : InsA md_L_cycleSum 32 (.iload 6) 2 34 := ⟨by decide +kernel, rfl⟩
theorem o_L_cycleSum_34 : InsA md_L_cycleSum 34 (.iload_n 1) 1 35 := ⟨by decide +kernel, rfl⟩
theorem o_L_cycleSum_35 : InsB md_L_cycleSum 35 (.if_icmp .ge 13) 3 38 (13) 48 := ⟨by decide +kernel, rfl, by decide, by decide⟩
theorem o_L_cycleSum_38 : InsA md_L_cycleSum 38 (.lload_n 3) 1 39 := ⟨by decide +kernel, rfl⟩
theorem o_L_cycleSum_39 : InsA md_L_cycleSum 39 (.lconst 1) 1 40 := ⟨by decide +kernel, rfl⟩
theorem o_L_cycleSum_40 : InsA md_L_cycleSum 40 (.bipush 16) 2 42 := ⟨by decide +kernel, rfl⟩
theorem o_L_cycleSum_42 : InsA md_L_cycleSum 42 (.iload 6) 2 44 := ⟨by decide +kernel, rfl⟩
theorem o_L_cycleSum_44 : InsA md_L_cycleSum 44 (.imul) 1 45 := ⟨by decide +kernel, rfl⟩
theorem o_L_cycleSum_45 : InsA md_L_cycleSum 45 (.lshl) 1 46 := ⟨by decide +kernel, rfl⟩
theorem o_L_cycleSum_46 : InsA md_L_cycleSum 46 (.ladd) 1 47 := ⟨by decide +kernel, rfl⟩
theorem o_L_cycleSum_47 : InsA md_L_cycleSum 47 (.lstore_n 3) 1 48 := ⟨by decide +kernel, rfl⟩
theorem o_L_cycleSum_48 : InsA md_L_cycleSum 48 (.iinc 5 1) 3 51 := ⟨by decide +kernel, rfl⟩
theorem o_L_cycleSum_51 : InsB md_L_cycleSum 51 (.goto (-46)) 3 54 (-46) 5 := ⟨by decide +kernel, rfl, by decide, by decide⟩
theorem o_L_cycleSum_54 : InsA md_L_cycleSum 54 (.lload_n 3) 1 55 := ⟨by decide +kernel, rfl⟩
theorem o_L_cycleSum_55 : InsA md_L_cycleSum 55 (.lreturn) 1 56 := ⟨by decide +kernel, rfl⟩
abbrev md_L_law : MD := (x, code, maxLocals, ret, room_1, 8)
theorem o_L_law_0 : InsA md_L_law 0 (.new 10) 3 3 := ⟨at_0, rfl⟩
theorem o_L_law_3 : InsA md_L_law 3 (.dup) 1 4 := ⟨at_3, rfl⟩
theorem o_L_law_4 : InsA md_L_law 4 (.iconst 4) 1 5 := ⟨at_4, rfl⟩
theorem o_L_law_5 : InsA md_L_law 5 (.bipush 60) 2 7 := ⟨at_5, rfl⟩
theorem o_L_law_7 : InsA md_L_law 7 (.invokespecial 23) 3 10 := ⟨at_7, rfl⟩
theorem o_L_law_10 : InsA md_L_law 10 (.astore_n 1) 1 11 := ⟨at_10, rfl⟩
theorem o_L_law_11 : InsA md_L_law 11 (.iconst 0) 1 12 := ⟨at_11, rfl⟩
theorem o_L_law_12 : InsA md_L_law 12 (.istore_n 2) 1 13 := ⟨at_12, rfl⟩
theorem o_L_law_13 : InsA md_L_law 13 (.iload_n 2) 1 14 := ⟨at_13, rfl⟩
theorem o_L_law_14 : InsA md_L_law 14 (.iconst 3) 1 15 := ⟨at_14, rfl⟩
theorem o_L_law_15 : InsA md_L_law 15 (.iadd) 1 16 := ⟨at_15, rfl⟩
theorem o_L_law_16 : InsA md_L_law 16 (.aload_n 0) 1 17 := ⟨at_16, rfl⟩
theorem o_L_law_17 : InsA md_L_law 17 (.arraylength) 1 18 := ⟨at_17, rfl⟩
theorem o_L_law_18 : InsB md_L_law 18 (.if_icmp .ge 365) 3 21 (365) 383 := ⟨at_18, rfl, by decide, by decide⟩
theorem o_L_law_21 : InsA md_L_law 21 (.iload_n 2) 1 22 := ⟨at_21, rfl⟩
theorem o_L_law_22 : InsA md_L_law 22 (.sipush 400) 3 25 := ⟨at_22, rfl⟩
theorem o_L_law_25 : InsB md_L_law 25 (.if_icmp .ge 358) 3 28 (358) 383 := ⟨at_25, rfl, by decide, by decide⟩
theorem o_L_law_28 : InsA md_L_law 28 (.aload_n 0) 1 29 := ⟨at_28, rfl⟩
theorem o_L_law_29 : InsA md_L_law 29 (.iload_n 2) 1 30 := ⟨at_29, rfl⟩
theorem o_L_law_30 : InsA md_L_law 30 (.iaload) 1 31 := ⟨at_30, rfl⟩
theorem o_L_law_31 : InsA md_L_law 31 (.iconst 3) 1 32 := ⟨at_31, rfl⟩
theorem o_L_law_32 : InsA md_L_law 32 (.iand) 1 33 := ⟨at_32, rfl⟩
theorem o_L_law_33 : InsA md_L_law 33 (.istore_n 3) 1 34 := ⟨at_33, rfl⟩
theorem o_L_law_34 : InsA md_L_law 34 (.aload_n 0) 1 35 := ⟨at_34, rfl⟩
theorem o_L_law_35 : InsA md_L_law 35 (.iload_n 2) 1 36 := ⟨at_35, rfl⟩
theorem o_L_law_36 : InsA md_L_law 36 (.iconst 1) 1 37 := ⟨at_36, rfl⟩
theorem o_L_law_37 : InsA md_L_law 37 (.iadd) 1 38 := ⟨at_37, rfl⟩
theorem o_L_law_38 : InsA md_L_law 38 (.iaload) 1 39 := ⟨at_38, rfl⟩
theorem o_L_law_39 : InsA md_L_law 39 (.istore 4) 2 41 := ⟨at_39, rfl⟩
theorem o_L_law_41 : InsA md_L_law 41 (.aload_n 0) 1 42 := ⟨at_41, rfl⟩
theorem o_L_law_42 : InsA md_L_law 42 (.iload_n 2) 1 43 := ⟨at_42, rfl⟩
theorem o_L_law_43 : InsA md_L_law 43 (.iconst 2) 1 44 := ⟨at_43, rfl⟩
theorem o_L_law_44 : InsA md_L_law 44 (.iadd) 1 45 := ⟨at_44, rfl⟩
theorem o_L_law_45 : InsA md_L_law 45 (.iaload) 1 46 := ⟨at_45, rfl⟩
theorem o_L_law_46 : InsA md_L_law 46 (.istore 5) 2 48 := ⟨at_46, rfl⟩
theorem o_L_law_48 : InsA md_L_law 48 (.aload_n 0) 1 49 := ⟨at_48, rfl⟩
theorem o_L_law_49 : InsA md_L_law 49 (.iload_n 2) 1 50 := ⟨at_49, rfl⟩
theorem o_L_law_50 : InsA md_L_law 50 (.iconst 3) 1 51 := ⟨at_50, rfl⟩
theorem o_L_law_51 : InsA md_L_law 51 (.iadd) 1 52 := ⟨at_51, rfl⟩
theorem o_L_law_52 : InsA md_L_law 52 (.iaload) 1 53 := ⟨at_52, rfl⟩
theorem o_L_law_53 : InsA md_L_law 53 (.istore 6) 2 55 := ⟨at_53, rfl⟩
theorem o_L_law_55 : InsA md_L_law 55 (.iload_n 3) 1 56 := ⟨at_55, rfl⟩
theorem o_L_law_56 : InsA md_L_law 56 (.iconst 1) 1 57 := ⟨at_56, rfl⟩
theorem o_L_law_57 : InsB md_L_law 57 (.if_icmp .gt 43) 3 60 (43) 100 := ⟨at_57, rfl, by decide, by decide⟩
theorem o_L_law_60 : InsA md_L_law 60 (.iload 4) 2 62 := ⟨at_60, rfl⟩
theorem o_L_law_62 : InsA md_L_law 62 (.bipush 7) 2 64 := ⟨at_62, rfl⟩
theorem o_L_law_64 : InsA md_L_law 64 (.iand) 1 65 := ⟨at_64, rfl⟩
theorem o_L_law_65 : InsA md_L_law 65 (.iconst 1) 1 66 := ⟨at_65, rfl⟩
theorem o_L_law_66 : InsA md_L_law 66 (.iadd) 1 67 := ⟨at_66, rfl⟩
theorem o_L_law_67 : InsA md_L_law 67 (.istore 7) 2 69 := ⟨at_67, rfl⟩
theorem o_L_law_69 : InsA md_L_law 69 (.iload 5) 2 71 := ⟨at_69, rfl⟩
theorem o_L_law_71 : InsA md_L_law 71 (.iconst 3) 1 72 := ⟨at_71, rfl⟩
theorem o_L_law_72 : InsA md_L_law 72 (.iand) 1 73 := ⟨at_72, rfl⟩
theorem o_L_law_73 : InsA md_L_law 73 (.iconst 1) 1 74 := ⟨at_73, rfl⟩
theorem o_L_law_74 : InsA md_L_law 74 (.iadd) 1 75 := ⟨at_74, rfl⟩
theorem o_L_law_75 : InsA md_L_law 75 (.istore 8) 2 77 := ⟨at_75, rfl⟩
theorem o_L_law_77 : InsA md_L_law 77 (.iload 7) 2 79 := ⟨at_77, rfl⟩
theorem o_L_law_79 : InsA md_L_law 79 (.iload 6) 2 81 := ⟨at_79, rfl⟩
theorem o_L_law_81 : InsA md_L_law 81 (.iconst 1) 1 82 := ⟨at_81, rfl⟩
theorem o_L_law_82 : InsA md_L_law 82 (.iand) 1 83 := ⟨at_82, rfl⟩
theorem o_L_law_83 : InsA md_L_law 83 (.isub) 1 84 := ⟨at_83, rfl⟩
theorem o_L_law_84 : InsA md_L_law 84 (.istore 9) 2 86 := ⟨at_84, rfl⟩
theorem o_L_law_86 : InsA md_L_law 86 (.aload_n 1) 1 87 := ⟨at_86, rfl⟩
theorem o_L_law_87 : InsA md_L_law 87 (.iload 7) 2 89 := ⟨at_87, rfl⟩
theorem o_L_law_89 : InsA md_L_law 89 (.iload 8) 2 91 := ⟨at_89, rfl⟩
theorem o_L_law_91 : InsA md_L_law 91 (.iload 9) 2 93 := ⟨at_91, rfl⟩
theorem o_L_law_93 : InsA md_L_law 93 (.invokevirtual 26) 3 96 := ⟨at_93, rfl⟩
theorem o_L_law_96 : InsA md_L_law 96 (.pop) 1 97 := ⟨at_96, rfl⟩
theorem o_L_law_97 : InsB md_L_law 97 (.goto 43) 3 100 (43) 140 := ⟨at_97, rfl, by decide, by decide⟩
theorem o_L_law_100 : InsA md_L_law 100 (.iload_n 3) 1 101 := ⟨at_100, rfl⟩
theorem o_L_law_101 : InsA md_L_law 101 (.iconst 2) 1 102 := ⟨at_101, rfl⟩
theorem o_L_law_102 : InsB md_L_law 102 (.if_icmp .ne 22) 3 105 (22) 124 := ⟨at_102, rfl, by decide, by decide⟩
theorem o_L_law_105 : InsA md_L_law 105 (.iload 4) 2 107 := ⟨at_105, rfl⟩
theorem o_L_law_107 : InsA md_L_law 107 (.bipush 7) 2 109 := ⟨at_107, rfl⟩
theorem o_L_law_109 : InsA md_L_law 109 (.iand) 1 110 := ⟨at_109, rfl⟩
theorem o_L_law_110 : InsA md_L_law 110 (.iconst 1) 1 111 := ⟨at_110, rfl⟩
theorem o_L_law_111 : InsA md_L_law 111 (.iadd) 1 112 := ⟨at_111, rfl⟩
theorem o_L_law_112 : InsA md_L_law 112 (.istore 7) 2 114 := ⟨at_112, rfl⟩
theorem o_L_law_114 : InsA md_L_law 114 (.aload_n 1) 1 115 := ⟨at_114, rfl⟩
theorem o_L_law_115 : InsA md_L_law 115 (.iload 7) 2 117 := ⟨at_115, rfl⟩
theorem o_L_law_117 : InsA md_L_law 117 (.invokevirtual 30) 3 120 := ⟨at_117, rfl⟩
theorem o_L_law_120 : InsA md_L_law 120 (.pop) 1 121 := ⟨at_120, rfl⟩
theorem o_L_law_121 : InsB md_L_law 121 (.goto 19) 3 124 (19) 140 := ⟨at_121, rfl, by decide, by decide⟩
theorem o_L_law_124 : InsA md_L_law 124 (.iload 4) 2 126 := ⟨at_124, rfl⟩
theorem o_L_law_126 : InsA md_L_law 126 (.bipush 63) 2 128 := ⟨at_126, rfl⟩
theorem o_L_law_128 : InsA md_L_law 128 (.iand) 1 129 := ⟨at_128, rfl⟩
theorem o_L_law_129 : InsA md_L_law 129 (.iconst 2) 1 130 := ⟨at_129, rfl⟩
theorem o_L_law_130 : InsA md_L_law 130 (.isub) 1 131 := ⟨at_130, rfl⟩
theorem o_L_law_131 : InsA md_L_law 131 (.istore 7) 2 133 := ⟨at_131, rfl⟩
theorem o_L_law_133 : InsA md_L_law 133 (.aload_n 1) 1 134 := ⟨at_133, rfl⟩
theorem o_L_law_134 : InsA md_L_law 134 (.iload 7) 2 136 := ⟨at_134, rfl⟩
theorem o_L_law_136 : InsA md_L_law 136 (.invokevirtual 33) 3 139 := ⟨at_136, rfl⟩
theorem o_L_law_139 : InsA md_L_law 139 (.pop) 1 140 := ⟨at_139, rfl⟩
theorem o_L_law_140 : InsA md_L_law 140 (.aload_n 0) 1 141 := ⟨at_140, rfl⟩
theorem o_L_law_141 : InsA md_L_law 141 (.iload_n 2) 1 142 := ⟨at_141, rfl⟩
theorem o_L_law_142 : InsA md_L_law 142 (.iaload) 1 143 := ⟨at_142, rfl⟩
theorem o_L_law_143 : InsA md_L_law 143 (.iconst 4) 1 144 := ⟨at_143, rfl⟩
theorem o_L_law_144 : InsA md_L_law 144 (.iand) 1 145 := ⟨at_144, rfl⟩
theorem o_L_law_145 : InsB md_L_law 145 (.ifCond .eq 232) 3 148 (232) 377 := ⟨at_145, rfl, by decide, by decide⟩
theorem o_L_law_148 : InsA md_L_law 148 (.aload_n 1) 1 149 := ⟨at_148, rfl⟩
theorem o_L_law_149 : InsA md_L_law 149 (.invokevirtual 36) 3 152 := ⟨at_149, rfl⟩
theorem o_L_law_152 : InsB md_L_law 152 (.ifCond .gt 6) 3 155 (6) 158 := ⟨at_152, rfl, by decide, by decide⟩
theorem o_L_law_155 : InsB md_L_law 155 (.goto 222) 3 158 (222) 377 := ⟨at_155, rfl, by decide, by decide⟩
theorem o_L_law_158 : InsA md_L_law 158 (.aload_n 1) 1 159 := ⟨at_158, rfl⟩
theorem o_L_law_159 : InsA md_L_law 159 (.invokevirtual 40) 3 162 := ⟨at_159, rfl⟩
theorem o_L_law_162 : InsA md_L_law 162 (.istore 7) 2 164 := ⟨at_162, rfl⟩
theorem o_L_law_164 : InsA md_L_law 164 (.aload_n 1) 1 165 := ⟨at_164, rfl⟩
theorem o_L_law_165 : InsA md_L_law 165 (.invokevirtual 43) 3 168 := ⟨at_165, rfl⟩
theorem o_L_law_168 : InsA md_L_law 168 (.istore 8) 2 170 := ⟨at_168, rfl⟩
theorem o_L_law_170 : InsA md_L_law 170 (.aload_n 1) 1 171 := ⟨at_170, rfl⟩
theorem o_L_law_171 : InsA md_L_law 171 (.invokevirtual 36) 3 174 := ⟨at_171, rfl⟩
theorem o_L_law_174 : InsA md_L_law 174 (.istore 9) 2 176 := ⟨at_174, rfl⟩
theorem o_L_law_176 : InsA md_L_law 176 (.aload_n 1) 1 177 := ⟨at_176, rfl⟩
theorem o_L_law_177 : InsA md_L_law 177 (.invokevirtual 46) 3 180 := ⟨at_177, rfl⟩
theorem o_L_law_180 : InsA md_L_law 180 (.istore 10) 2 182 := ⟨at_180, rfl⟩
theorem o_L_law_182 : InsA md_L_law 182 (.aload_n 1) 1 183 := ⟨at_182, rfl⟩
theorem o_L_law_183 : InsA md_L_law 183 (.invokevirtual 49) 3 186 := ⟨at_183, rfl⟩
theorem o_L_law_186 : InsA md_L_law 186 (.istore 11) 2 188 := ⟨at_186, rfl⟩
theorem o_L_law_188 : InsA md_L_law 188 (.iload 7) 2 190 := ⟨at_188, rfl⟩
theorem o_L_law_190 : InsA md_L_law 190 (.iconst 1) 1 191 := ⟨at_190, rfl⟩
theorem o_L_law_191 : InsB md_L_law 191 (.if_icmp .lt 22) 3 194 (22) 213 := ⟨at_191, rfl, by decide, by decide⟩
theorem o_L_law_194 : InsA md_L_law 194 (.iload 7) 2 196 := ⟨at_194, rfl⟩
theorem o_L_law_196 : InsA md_L_law 196 (.bipush 60) 2 198 := ⟨at_196, rfl⟩
theorem o_L_law_198 : InsB md_L_law 198 (.if_icmp .gt 15) 3 201 (15) 213 := ⟨at_198, rfl, by decide, by decide⟩
theorem o_L_law_201 : InsA md_L_law 201 (.iload 8) 2 203 := ⟨at_201, rfl⟩
theorem o_L_law_203 : InsA md_L_law 203 (.iconst 1) 1 204 := ⟨at_203, rfl⟩
theorem o_L_law_204 : InsB md_L_law 204 (.if_icmp .lt 9) 3 207 (9) 213 := ⟨at_204, rfl, by decide, by decide⟩
theorem o_L_law_207 : InsA md_L_law 207 (.iload 8) 2 209 := ⟨at_207, rfl⟩
theorem o_L_law_209 : InsA md_L_law 209 (.iconst 4) 1 210 := ⟨at_209, rfl⟩
theorem o_L_law_210 : InsB md_L_law 210 (.if_icmp .le 5) 3 213 (5) 215 := ⟨at_210, rfl, by decide, by decide⟩
theorem o_L_law_213 : InsA md_L_law 213 (.iconst 0) 1 214 := ⟨at_213, rfl⟩
theorem o_L_law_214 : InsA md_L_law 214 (.ireturn) 1 215 := ⟨at_214, rfl⟩
theorem o_L_law_215 : InsA md_L_law 215 (.aload_n 1) 1 216 := ⟨at_215, rfl⟩
theorem o_L_law_216 : InsA md_L_law 216 (.iload 7) 2 218 := ⟨at_216, rfl⟩
theorem o_L_law_218 : InsA md_L_law 218 (.invokestatic 52) 3 221 := ⟨at_218, rfl⟩
theorem o_L_law_221 : InsA md_L_law 221 (.lstore 12) 2 223 := ⟨at_221, rfl⟩
theorem o_L_law_223 : InsA md_L_law 223 (.aload_n 1) 1 224 := ⟨at_223, rfl⟩
theorem o_L_law_224 : InsA md_L_law 224 (.iload 8) 2 226 := ⟨at_224, rfl⟩
theorem o_L_law_226 : InsA md_L_law 226 (.invokestatic 58) 3 229 := ⟨at_226, rfl⟩
theorem o_L_law_229 : InsA md_L_law 229 (.lstore 14) 2 231 := ⟨at_229, rfl⟩
theorem o_L_law_231 : InsA md_L_law 231 (.aload_n 1) 1 232 := ⟨at_231, rfl⟩
theorem o_L_law_232 : InsA md_L_law 232 (.iload 8) 2 234 := ⟨at_232, rfl⟩
theorem o_L_law_234 : InsA md_L_law 234 (.iload 7) 2 236 := ⟨at_234, rfl⟩
theorem o_L_law_236 : InsA md_L_law 236 (.invokestatic 61) 3 239 := ⟨at_236, rfl⟩
theorem o_L_law_239 : InsA md_L_law 239 (.lstore 16) 2 241 := ⟨at_239, rfl⟩
theorem o_L_law_241 : InsA md_L_law 241 (.iload 7) 2 243 := ⟨at_241, rfl⟩
theorem o_L_law_243 : InsA md_L_law 243 (.iconst 1) 1 244 := ⟨at_243, rfl⟩
theorem o_L_law_244 : InsA md_L_law 244 (.iadd) 1 245 := ⟨at_244, rfl⟩
theorem o_L_law_245 : InsA md_L_law 245 (.istore 18) 2 247 := ⟨at_245, rfl⟩
theorem o_L_law_247 : InsA md_L_law 247 (.aload_n 1) 1 248 := ⟨at_247, rfl⟩
theorem o_L_law_248 : InsA md_L_law 248 (.iload 18) 2 250 := ⟨at_248, rfl⟩
theorem o_L_law_250 : InsA md_L_law 250 (.invokevirtual 30) 3 253 := ⟨at_250, rfl⟩
theorem o_L_law_253 : InsA md_L_law 253 (.bipush (-5)) 2 255 := ⟨at_253, rfl⟩
theorem o_L_law_255 : InsB md_L_law 255 (.if_icmp .eq 5) 3 258 (5) 260 := ⟨at_255, rfl, by decide, by decide⟩
theorem o_L_law_258 : InsA md_L_law 258 (.iconst 0) 1 259 := ⟨at_258, rfl⟩
theorem o_L_law_259 : InsA md_L_law 259 (.ireturn) 1 260 := ⟨at_259, rfl⟩
theorem o_L_law_260 : InsA md_L_law 260 (.aload_n 1) 1 261 := ⟨at_260, rfl⟩
theorem o_L_law_261 : InsA md_L_law 261 (.iconst 0) 1 262 := ⟨at_261, rfl⟩
theorem o_L_law_262 : InsA md_L_law 262 (.iconst 1) 1 263 := ⟨at_262, rfl⟩
theorem o_L_law_263 : InsA md_L_law 263 (.iconst 1) 1 264 := ⟨at_263, rfl⟩
theorem o_L_law_264 : InsA md_L_law 264 (.invokevirtual 26) 3 267 := ⟨at_264, rfl⟩
theorem o_L_law_267 : InsA md_L_law 267 (.iconst (-1)) 1 268 := ⟨at_267, rfl⟩
theorem o_L_law_268 : InsB md_L_law 268 (.if_icmp .eq 5) 3 271 (5) 273 := ⟨at_268, rfl, by decide, by decide⟩
theorem o_L_law_271 : InsA md_L_law 271 (.iconst 0) 1 272 := ⟨at_271, rfl⟩
theorem o_L_law_272 : InsA md_L_law 272 (.ireturn) 1 273 := ⟨at_272, rfl⟩
theorem o_L_law_273 : InsA md_L_law 273 (.aload_n 1) 1 274 := ⟨at_273, rfl⟩
theorem o_L_law_274 : InsA md_L_law 274 (.iconst 0) 1 275 := ⟨at_274, rfl⟩
theorem o_L_law_275 : InsA md_L_law 275 (.invokevirtual 33) 3 278 := ⟨at_275, rfl⟩
theorem o_L_law_278 : InsB md_L_law 278 (.ifCond .eq 5) 3 281 (5) 283 := ⟨at_278, rfl, by decide, by decide⟩
theorem o_L_law_281 : InsA md_L_law 281 (.iconst 0) 1 282 := ⟨at_281, rfl⟩
theorem o_L_law_282 : InsA md_L_law 282 (.ireturn) 1 283 := ⟨at_282, rfl⟩
theorem o_L_law_283 : InsA md_L_law 283 (.aload_n 1) 1 284 := ⟨at_283, rfl⟩
theorem o_L_law_284 : InsA md_L_law 284 (.iload 7) 2 286 := ⟨at_284, rfl⟩
theorem o_L_law_286 : InsA md_L_law 286 (.invokevirtual 33) 3 289 := ⟨at_286, rfl⟩
theorem o_L_law_289 : InsA md_L_law 289 (.iload 7) 2 291 := ⟨at_289, rfl⟩
theorem o_L_law_291 : InsB md_L_law 291 (.if_icmp .eq 5) 3 294 (5) 296 := ⟨at_291, rfl, by decide, by decide⟩
theorem o_L_law_294 : InsA md_L_law 294 (.iconst 0) 1 295 := ⟨at_294, rfl⟩
theorem o_L_law_295 : InsA md_L_law 295 (.ireturn) 1 296 := ⟨at_295, rfl⟩
theorem o_L_law_296 : InsA md_L_law 296 (.aload_n 1) 1 297 := ⟨at_296, rfl⟩
theorem o_L_law_297 : InsA md_L_law 297 (.invokevirtual 36) 3 300 := ⟨at_297, rfl⟩
theorem o_L_law_300 : InsA md_L_law 300 (.iload 9) 2 302 := ⟨at_300, rfl⟩
theorem o_L_law_302 : InsB md_L_law 302 (.if_icmp .ne 30) 3 305 (30) 332 := ⟨at_302, rfl, by decide, by decide⟩
theorem o_L_law_305 : InsA md_L_law 305 (.aload_n 1) 1 306 := ⟨at_305, rfl⟩
theorem o_L_law_306 : InsA md_L_law 306 (.invokevirtual 40) 3 309 := ⟨at_306, rfl⟩
theorem o_L_law_309 : InsA md_L_law 309 (.iload 7) 2 311 := ⟨at_309, rfl⟩
theorem o_L_law_311 : InsB md_L_law 311 (.if_icmp .ne 21) 3 314 (21) 332 := ⟨at_311, rfl, by decide, by decide⟩
theorem o_L_law_314 : InsA md_L_law 314 (.aload_n 1) 1 315 := ⟨at_314, rfl⟩
theorem o_L_law_315 : InsA md_L_law 315 (.invokevirtual 43) 3 318 := ⟨at_315, rfl⟩
theorem o_L_law_318 : InsA md_L_law 318 (.iload 8) 2 320 := ⟨at_318, rfl⟩
theorem o_L_law_320 : InsB md_L_law 320 (.if_icmp .ne 12) 3 323 (12) 332 := ⟨at_320, rfl, by decide, by decide⟩
theorem o_L_law_323 : InsA md_L_law 323 (.aload_n 1) 1 324 := ⟨at_323, rfl⟩
theorem o_L_law_324 : InsA md_L_law 324 (.invokevirtual 49) 3 327 := ⟨at_324, rfl⟩
theorem o_L_law_327 : InsA md_L_law 327 (.iload 11) 2 329 := ⟨at_327, rfl⟩
theorem o_L_law_329 : InsB md_L_law 329 (.if_icmp .eq 5) 3 332 (5) 334 := ⟨at_329, rfl, by decide, by decide⟩
theorem o_L_law_332 : InsA md_L_law 332 (.iconst 0) 1 333 := ⟨at_332, rfl⟩
theorem o_L_law_333 : InsA md_L_law 333 (.ireturn) 1 334 := ⟨at_333, rfl⟩
theorem o_L_law_334 : InsA md_L_law 334 (.aload_n 1) 1 335 := ⟨at_334, rfl⟩
theorem o_L_law_335 : InsA md_L_law 335 (.invokevirtual 46) 3 338 := ⟨at_335, rfl⟩
theorem o_L_law_338 : InsA md_L_law 338 (.iload 10) 2 340 := ⟨at_338, rfl⟩
theorem o_L_law_340 : InsA md_L_law 340 (.iload 7) 2 342 := ⟨at_340, rfl⟩
theorem o_L_law_342 : InsA md_L_law 342 (.iadd) 1 343 := ⟨at_342, rfl⟩
theorem o_L_law_343 : InsB md_L_law 343 (.if_icmp .ne 15) 3 346 (15) 358 := ⟨at_343, rfl, by decide, by decide⟩
theorem o_L_law_346 : InsA md_L_law 346 (.aload_n 1) 1 347 := ⟨at_346, rfl⟩
theorem o_L_law_347 : InsA md_L_law 347 (.iload 7) 2 349 := ⟨at_347, rfl⟩
theorem o_L_law_349 : InsA md_L_law 349 (.invokestatic 52) 3 352 := ⟨at_349, rfl⟩
theorem o_L_law_352 : InsA md_L_law 352 (.lload 12) 2 354 := ⟨at_352, rfl⟩
theorem o_L_law_354 : InsA md_L_law 354 (.lcmp) 1 355 := ⟨at_354, rfl⟩
theorem o_L_law_355 : InsB md_L_law 355 (.ifCond .eq 5) 3 358 (5) 360 := ⟨at_355, rfl, by decide, by decide⟩
theorem o_L_law_358 : InsA md_L_law 358 (.iconst 0) 1 359 := ⟨at_358, rfl⟩
theorem o_L_law_359 : InsA md_L_law 359 (.ireturn) 1 360 := ⟨at_359, rfl⟩
theorem o_L_law_360 : InsA md_L_law 360 (.aload_n 1) 1 361 := ⟨at_360, rfl⟩
theorem o_L_law_361 : InsA md_L_law 361 (.iload 8) 2 363 := ⟨at_361, rfl⟩
theorem o_L_law_363 : InsA md_L_law 363 (.invokestatic 58) 3 366 := ⟨at_363, rfl⟩
theorem o_L_law_366 : InsA md_L_law 366 (.lload 14) 2 368 := ⟨at_366, rfl⟩
theorem o_L_law_368 : InsA md_L_law 368 (.lload 16) 2 370 := ⟨at_368, rfl⟩
theorem o_L_law_370 : InsA md_L_law 370 (.ladd) 1 371 := ⟨at_370, rfl⟩
theorem o_L_law_371 : InsA md_L_law 371 (.lcmp) 1 372 := ⟨at_371, rfl⟩
theorem o_L_law_372 : InsB md_L_law 372 (.ifCond .eq 5) 3 375 (5) 377 := ⟨at_372, rfl, by decide, by decide⟩
theorem o_L_law_375 : InsA md_L_law 375 (.iconst 0) 1 376 := ⟨at_375, rfl⟩
theorem o_L_law_376 : InsA md_L_law 376 (.ireturn) 1 377 := ⟨at_376, rfl⟩
theorem o_L_law_377 : InsA md_L_law 377 (.iinc 2 4) 3 380 := ⟨at_377, rfl⟩
theorem o_L_law_380 : InsB md_L_law 380 (.goto (-367)) 3 383 (-367) 13 := ⟨at_380, rfl, by decide, by decide⟩
theorem o_L_law_383 : InsA md_L_law 383 (.iconst 1) 1 384 := ⟨at_383, rfl⟩
theorem o_L_law_384 : InsA md_L_law 384 (.ireturn) 1 385 := ⟨at_384, rfl⟩
theorem gd {c : Prop} [Decidable c] {α : Type} {x : Option α} {r : α} (h : (if c then x else none) = some r) : c ∧ x = some r := by
  by_cases q : c
  · rw [if_pos q] at h; exact ⟨q, h⟩
  · rw [if_neg q] at h; cases h
theorem ifp {c : Prop} [Decidable c] {α : Type} {x y z : α} (q : c) (h : (if c then x else y) = z) : x = z := by rw [if_pos q] at h; exact h
theorem ifn {c : Prop} [Decidable c] {α : Type} {x y z : α} (q : ¬ c) (h : (if c then x else y) = z) : y = z := by rw [if_neg q] at h; exact h
theorem getD_some {α : Type} {o : Option α} {d r : α} (h : o = some r) : o.getD d = r := by rw [h]; rfl
set_option maxRecDepth 65536 in
set_option maxHeartbeats 4000000 in
theorem wp_clamp {l : Launch} {Z : State} {a0 : Array Value} (H : OK Z a0) (F : Nat → Int32) (G : Nat → Int64) (A : Nat → Int32 → Int32) (B : Nat → Int32 → Int64) (p1 : Int32) (p2 : Int32) (p3 : Int32) {Q : Option Value → WO → Prop} (h3 : ¬ p1 < p2 → ¬ p3 < p1 → Q (some (.int p1)) (7, F, G, A, B)) (h4 : ¬ p1 < p2 → p3 < p1 → Q (some (.int p3)) (7, F, G, A, B)) (h5 : p1 < p2 → Q (some (.int p2)) (7, F, G, A, B)) :
    Wk l Z (MoC Z cdC) md_clamp 0 [.val (.ref 0), .val (.int p1), .val (.int p2), .val (.int p3)] [] (7, F, G, A, B) 0 0 Q := by
  refine Wk.iloadN o_clamp_0 rfl ?_
  refine Wk.iloadN o_clamp_1 rfl ?_
  refine Wk.icmp_ge o_clamp_2 (fun q1 => ?_) (fun q1 => ?_)
  · refine Wk.iloadN o_clamp_7 rfl ?_
    refine Wk.iloadN o_clamp_8 rfl ?_
    refine Wk.icmp_le o_clamp_9 (fun q2 => ?_) (fun q2 => ?_)
    · refine Wk.iloadN o_clamp_14 rfl ?_
      exact Wk.ireturn mrC rfl o_clamp_15 rfl (by decide) (by decide) (h3 q1 q2)
    · refine Wk.iloadN o_clamp_12 rfl ?_
      exact Wk.ireturn mrC rfl o_clamp_13 rfl (by decide) (by decide) (h4 q1 q2)
  · refine Wk.iloadN o_clamp_5 rfl ?_
    exact Wk.ireturn mrC rfl o_clamp_6 rfl (by decide) (by decide) (h5 q1)

def f_clamp (p1 : Int32) (p2 : Int32) (p3 : Int32) : Int32 := (if p1 < p2 then p2 else (if p3 < p1 then p3 else p1))
theorem e_clamp (p1 : Int32) (p2 : Int32) (p3 : Int32) : f_clamp p1 p2 p3 = (if p1 < p2 then p2 else (if p3 < p1 then p3 else p1)) := Eq.trans rfl rfl
theorem run_clamp {l : Launch} {Z : State} {a0 : Array Value} (H : OK Z a0) (F : Nat → Int32) (G : Nat → Int64) (A : Nat → Int32 → Int32) (B : Nat → Int32 → Int64) (p1 : Int32) (p2 : Int32) (p3 : Int32) :
    Wk l Z (MoC Z cdC) md_clamp 0 [.val (.ref 0), .val (.int p1), .val (.int p2), .val (.int p3)] [] (7, F, G, A, B) 0 0 (fun v w' => v = some (.int (f_clamp p1 p2 p3)) ∧ w' = (7, F, G, A, B)) :=
  wp_clamp H F G A B p1 p2 p3 (fun q1 q2 => ⟨by simp only [e_clamp, if_neg q1, if_neg q2], rfl⟩) (fun q1 q2 => ⟨by simp only [e_clamp, if_neg q1, if_pos q2], rfl⟩) (fun q1 => ⟨by simp only [e_clamp, if_pos q1], rfl⟩)
set_option maxRecDepth 65536 in
set_option maxHeartbeats 4000000 in
theorem wp_init {l : Launch} {Z : State} {a0 : Array Value} (H : OK Z a0) (p1 : Int32) (p2 : Int32) {Q : Option Value → WO → Prop} (h1 : Q none (7, (ups (ups (ups (ups (ups (ups (ups (ups (ups (fun _ => 0) 0 (f_clamp p1 (1 : Int32) (8 : Int32))) 1 (f_clamp p2 (1 : Int32) (128 : Int32))) 2 (0 : Int32)) 3 (0 : Int32)) 4 (0 : Int32)) 5 (0 : Int32)) 6 (-1 : Int32)) 7 (0 : Int32)) 8 (0 : Int32)), (fun _ => 0), (fun _ _ => 0), (fun _ _ => 0))) :
    Wk l Z (MoC Z cdC) md_init 0 [.val (.ref 0), .val (.int p1), .val (.int p2)] [] (0, (fun _ => 0), (fun _ => 0), (fun _ _ => 0), (fun _ _ => 0)) 0 0 Q := by
  refine Wk.aloadN o_init_0 rfl ?_
  refine Wk.initO (H.w 6 rfl) (H.w 7 rfl) (H.w 8 rfl) o_init_1 rfl (by decide) (by decide) ?_
  refine Wk.aloadN o_init_4 rfl ?_
  refine Wk.bipush o_init_5 (z := (8 : Int32)) (by decide) ?_
  refine Wk.newA (coC H) (aty := .int) rfl (wa_int H) (mA_per) (wf_per H) (Or.inr ⟨wy_per H, rfl⟩) o_init_7 o_init_9 rfl rfl (k' := 1) rfl (cu' := 1) rfl (su' := 8) rfl (by decide) (by decide) (by decide) ?_
  refine Wk.aloadN o_init_12 rfl ?_
  refine Wk.bipush o_init_13 (z := (8 : Int32)) (by decide) ?_
  refine Wk.newA (coC H) (aty := .int) rfl (wa_int H) (mA_exe) (wf_exe H) (Or.inr ⟨wy_exe H, rfl⟩) o_init_15 o_init_17 rfl rfl (k' := 2) rfl (cu' := 2) rfl (su' := 16) rfl (by decide) (by decide) (by decide) ?_
  refine Wk.aloadN o_init_20 rfl ?_
  refine Wk.bipush o_init_21 (z := (8 : Int32)) (by decide) ?_
  refine Wk.newA (coC H) (aty := .int) rfl (wa_int H) (mA_dl) (wf_dl H) (Or.inr ⟨wy_dl H, rfl⟩) o_init_23 o_init_25 rfl rfl (k' := 3) rfl (cu' := 3) rfl (su' := 24) rfl (by decide) (by decide) (by decide) ?_
  refine Wk.aloadN o_init_28 rfl ?_
  refine Wk.bipush o_init_29 (z := (8 : Int32)) (by decide) ?_
  refine Wk.newA (coC H) (aty := .int) rfl (wa_int H) (mA_runCnt) (wf_runCnt H) (Or.inr ⟨wy_runCnt H, rfl⟩) o_init_31 o_init_33 rfl rfl (k' := 4) rfl (cu' := 4) rfl (su' := 32) rfl (by decide) (by decide) (by decide) ?_
  refine Wk.aloadN o_init_36 rfl ?_
  refine Wk.sipush o_init_37 (z := (128 : Int32)) (by decide) ?_
  refine Wk.newA (coC H) (aty := .int) rfl (wa_int H) (mA_tickTask) (wf_tickTask H) (Or.inr ⟨wy_tickTask H, rfl⟩) o_init_40 o_init_42 rfl rfl (k' := 5) rfl (cu' := 5) rfl (su' := 160) rfl (by decide) (by decide) (by decide) ?_
  refine Wk.aloadN o_init_45 rfl ?_
  refine Wk.sipush o_init_46 (z := (128 : Int32)) (by decide) ?_
  refine Wk.newA (coC H) (aty := .int) rfl (wa_int H) (mA_tickJob) (wf_tickJob H) (Or.inr ⟨wy_tickJob H, rfl⟩) o_init_49 o_init_51 rfl rfl (k' := 6) rfl (cu' := 6) rfl (su' := 288) rfl (by decide) (by decide) (by decide) ?_
  refine Wk.aloadN o_init_54 rfl ?_
  refine Wk.sipush o_init_55 (z := (1024 : Int32)) (by decide) ?_
  refine Wk.newA (coC H) (aty := .int) rfl (wa_int H) (mA_rem) (wf_rem H) (Or.inr ⟨wy_rem H, rfl⟩) o_init_58 o_init_60 rfl rfl (k' := 7) rfl (cu' := 7) rfl (su' := 1312) rfl (by decide) (by decide) (by decide) ?_
  refine Wk.aloadN o_init_63 rfl ?_
  refine Wk.aloadN o_init_64 rfl ?_
  refine Wk.iloadN o_init_65 rfl ?_
  refine Wk.iconst o_init_66 (z := (1 : Int32)) (by decide) ?_
  refine Wk.bipush o_init_67 (z := (8 : Int32)) (by decide) ?_
  refine Wk.callF [.int p1, .int (1 : Int32), .int (8 : Int32)] [.ref 0] (H.w 24 rfl) (cv_clamp H) o_init_69 (run_clamp H (fun _ => 0) (fun _ => 0) (fun _ _ => 0) (fun _ _ => 0) p1 (1 : Int32) (8 : Int32)) (wt := 1) (cu' := 7) (su' := 1312) (by decide) rfl rfl rfl rfl rfl rfl rfl ?_
  refine Wk.putI (coC H) (mI_maxTasks) (wf_maxTasks H) (Or.inl (wy_maxTasks H)) o_init_72 ?_
  refine Wk.aloadN o_init_75 rfl ?_
  refine Wk.aloadN o_init_76 rfl ?_
  refine Wk.iloadN o_init_77 rfl ?_
  refine Wk.iconst o_init_78 (z := (1 : Int32)) (by decide) ?_
  refine Wk.sipush o_init_79 (z := (128 : Int32)) (by decide) ?_
  refine Wk.callF [.int p2, .int (1 : Int32), .int (128 : Int32)] [.ref 0] (H.w 24 rfl) (cv_clamp H) o_init_82 (run_clamp H (ups (fun _ => 0) 0 (f_clamp p1 (1 : Int32) (8 : Int32))) (fun _ => 0) (fun _ _ => 0) (fun _ _ => 0) p2 (1 : Int32) (128 : Int32)) (wt := 1) (cu' := 7) (su' := 1312) (by decide) rfl rfl rfl rfl rfl rfl rfl ?_
  refine Wk.putI (coC H) (mI_maxHyper) (wf_maxHyper H) (Or.inl (wy_maxHyper H)) o_init_85 ?_
  refine Wk.aloadN o_init_88 rfl ?_
  refine Wk.iconst o_init_89 (z := (0 : Int32)) (by decide) ?_
  refine Wk.putI (coC H) (mI_count) (wf_count H) (Or.inl (wy_count H)) o_init_90 ?_
  refine Wk.aloadN o_init_93 rfl ?_
  refine Wk.iconst o_init_94 (z := (0 : Int32)) (by decide) ?_
  refine Wk.putI (coC H) (mI_hyper) (wf_hyper H) (Or.inl (wy_hyper H)) o_init_95 ?_
  refine Wk.aloadN o_init_98 rfl ?_
  refine Wk.iconst o_init_99 (z := (0 : Int32)) (by decide) ?_
  refine Wk.putZ (coC H) (y := (0 : Int32)) (by decide) (mI_present) (wf_present H) (Or.inl (wy_present H)) o_init_100 ?_
  refine Wk.aloadN o_init_103 rfl ?_
  refine Wk.iconst o_init_104 (z := (0 : Int32)) (by decide) ?_
  refine Wk.putI (coC H) (mI_frame) (wf_frame H) (Or.inl (wy_frame H)) o_init_105 ?_
  refine Wk.aloadN o_init_108 rfl ?_
  refine Wk.iconst o_init_109 (z := (-1 : Int32)) (by decide) ?_
  refine Wk.putI (coC H) (mI_miss) (wf_miss H) (Or.inl (wy_miss H)) o_init_110 ?_
  refine Wk.aloadN o_init_113 rfl ?_
  refine Wk.iconst o_init_114 (z := (0 : Int32)) (by decide) ?_
  refine Wk.putI (coC H) (mI_now) (wf_now H) (Or.inl (wy_now H)) o_init_115 ?_
  refine Wk.aloadN o_init_118 rfl ?_
  refine Wk.iconst o_init_119 (z := (0 : Int32)) (by decide) ?_
  refine Wk.putI (coC H) (mI_pos) (wf_pos H) (Or.inl (wy_pos H)) o_init_120 ?_
  exact Wk.ret mrC rfl o_init_123 rfl (by decide) (by decide) h1

def F_init (p1 : Int32) (p2 : Int32) : Nat → Int32 := (ups (ups (ups (ups (ups (ups (ups (ups (ups (fun _ => 0) 0 (f_clamp p1 (1 : Int32) (8 : Int32))) 1 (f_clamp p2 (1 : Int32) (128 : Int32))) 2 (0 : Int32)) 3 (0 : Int32)) 4 (0 : Int32)) 5 (0 : Int32)) 6 (-1 : Int32)) 7 (0 : Int32)) 8 (0 : Int32))
theorem eF_init (p1 : Int32) (p2 : Int32) : F_init p1 p2 = (ups (ups (ups (ups (ups (ups (ups (ups (ups (fun _ => 0) 0 (f_clamp p1 (1 : Int32) (8 : Int32))) 1 (f_clamp p2 (1 : Int32) (128 : Int32))) 2 (0 : Int32)) 3 (0 : Int32)) 4 (0 : Int32)) 5 (0 : Int32)) 6 (-1 : Int32)) 7 (0 : Int32)) 8 (0 : Int32)) := Eq.trans rfl rfl
theorem F_init_0 (p1 : Int32) (p2 : Int32) : F_init p1 p2 0 = (f_clamp p1 (1 : Int32) (8 : Int32)) := by
  exact Eq.trans rfl rfl
theorem F_init_1 (p1 : Int32) (p2 : Int32) : F_init p1 p2 1 = (f_clamp p2 (1 : Int32) (128 : Int32)) := by
  exact Eq.trans rfl rfl
theorem F_init_2 (p1 : Int32) (p2 : Int32) : F_init p1 p2 2 = (0 : Int32) := by
  exact Eq.trans rfl rfl
theorem F_init_3 (p1 : Int32) (p2 : Int32) : F_init p1 p2 3 = (0 : Int32) := by
  exact Eq.trans rfl rfl
theorem F_init_4 (p1 : Int32) (p2 : Int32) : F_init p1 p2 4 = (0 : Int32) := by
  exact Eq.trans rfl rfl
theorem F_init_5 (p1 : Int32) (p2 : Int32) : F_init p1 p2 5 = (0 : Int32) := by
  exact Eq.trans rfl rfl
theorem F_init_6 (p1 : Int32) (p2 : Int32) : F_init p1 p2 6 = (-1 : Int32) := by
  exact Eq.trans rfl rfl
theorem F_init_7 (p1 : Int32) (p2 : Int32) : F_init p1 p2 7 = (0 : Int32) := by
  exact Eq.trans rfl rfl
theorem F_init_8 (p1 : Int32) (p2 : Int32) : F_init p1 p2 8 = (0 : Int32) := by
  exact Eq.trans rfl rfl
theorem run_init {l : Launch} {Z : State} {a0 : Array Value} (H : OK Z a0)  (p1 : Int32) (p2 : Int32) :
    Wk l Z (MoC Z cdC) md_init 0 [.val (.ref 0), .val (.int p1), .val (.int p2)] [] (0, (fun _ => 0), (fun _ => 0), (fun _ _ => 0), (fun _ _ => 0)) 0 0 (fun v w' => v = none ∧ w' = (7, (F_init p1 p2), (fun _ => 0), (fun _ _ => 0), (fun _ _ => 0))) :=
  wp_init H p1 p2 ⟨rfl, rfl⟩
set_option maxRecDepth 65536 in
set_option maxHeartbeats 4000000 in
theorem wp_gcd {l : Launch} {Z : State} {a0 : Array Value} (H : OK Z a0) (F : Nat → Int32) (G : Nat → Int64) (A : Nat → Int32 → Int32) (B : Nat → Int32 → Int64) (p1 : Int32) (p2 : Int32) {Q : Option Value → WO → Prop} (h1 : Wk l Z (MoC Z cdC) md_gcd 8 [.val (.ref 0), .unset, .unset, .val (.int p1), .val (.int p2), .val (.int (0 : Int32)), .unset] [] (7, F, G, A, B) 0 0 Q) :
    Wk l Z (MoC Z cdC) md_gcd 0 [.val (.ref 0), .val (.int p1), .val (.int p2), .unset, .unset, .unset, .unset] [] (7, F, G, A, B) 0 0 Q := by
  refine Wk.iloadN o_gcd_0 rfl ?_
  refine Wk.istoreN o_gcd_1 (Or.inl rfl) (L' := [.val (.ref 0), .val (.int p1), .val (.int p2), .val (.int p1), .unset, .unset, .unset]) rfl ?_
  refine Wk.iloadN o_gcd_2 rfl ?_
  refine Wk.istore o_gcd_3 (Or.inl rfl) (L' := [.val (.ref 0), .val (.int p1), .val (.int p2), .val (.int p1), .val (.int p2), .unset, .unset]) rfl ?_
  refine Wk.iconst o_gcd_5 (z := (0 : Int32)) (by decide) ?_
  refine Wk.istore o_gcd_6 (Or.inl rfl) (L' := [.val (.ref 0), .val (.int p1), .val (.int p2), .val (.int p1), .val (.int p2), .val (.int (0 : Int32)), .unset]) rfl ?_
  refine Wk.forget [false, true, true, false, false, false, false] (L' := [.val (.ref 0), .unset, .unset, .val (.int p1), .val (.int p2), .val (.int (0 : Int32)), .unset]) rfl rfl ?_
  exact h1

set_option maxRecDepth 65536 in
set_option maxHeartbeats 4000000 in
theorem wp_gcd_8 {l : Launch} {Z : State} {a0 : Array Value} (H : OK Z a0) (F : Nat → Int32) (G : Nat → Int64) (A : Nat → Int32 → Int32) (B : Nat → Int32 → Int64) (v3 : Int32) (v4 : Int32) (v5 : Int32) {Q : Option Value → WO → Prop} (h2 : ¬ v5 < (64 : Int32) → Q (some (.int v3)) (7, F, G, A, B)) (h4 : v5 < (64 : Int32) → v4 = 0 → Q (some (.int v3)) (7, F, G, A, B)) (s5 : v5 < (64 : Int32) → ¬ v4 = 0 → ¬ v4 = (0 : Int32)) (h6 : v5 < (64 : Int32) → ¬ v4 = 0 → Wk l Z (MoC Z cdC) md_gcd 8 [.val (.ref 0), .unset, .unset, .val (.int v4), .val (.int (v3 % v4)), .val (.int (v5 + (1 : Int32))), .unset] [] (7, F, G, A, B) 0 0 Q) :
    Wk l Z (MoC Z cdC) md_gcd 8 [.val (.ref 0), .unset, .unset, .val (.int v3), .val (.int v4), .val (.int v5), .unset] [] (7, F, G, A, B) 0 0 Q := by
  refine Wk.iload o_gcd_8 rfl ?_
  refine Wk.bipush o_gcd_10 (z := (64 : Int32)) (by decide) ?_
  refine Wk.icmp_ge o_gcd_12 (fun q1 => ?_) (fun q1 => ?_)
  · refine Wk.iloadN o_gcd_39 rfl ?_
    exact Wk.ireturn mrC rfl o_gcd_40 rfl (by decide) (by decide) (h2 q1)
  · refine Wk.iload o_gcd_15 rfl ?_
    refine Wk.if_eq o_gcd_17 (fun q3 => ?_) (fun q3 => ?_)
    · refine Wk.iloadN o_gcd_39 rfl ?_
      exact Wk.ireturn mrC rfl o_gcd_40 rfl (by decide) (by decide) (h4 q1 q3)
    · refine Wk.iloadN o_gcd_20 rfl ?_
      refine Wk.iload o_gcd_21 rfl ?_
      refine Wk.irem o_gcd_23 (s5 q1 q3) ?_
      refine Wk.istore o_gcd_24 (Or.inl rfl) (L' := [.val (.ref 0), .unset, .unset, .val (.int v3), .val (.int v4), .val (.int v5), .val (.int (v3 % v4))]) rfl ?_
      refine Wk.iload o_gcd_26 rfl ?_
      refine Wk.istoreN o_gcd_28 (Or.inr ⟨_, rfl, rfl⟩) (L' := [.val (.ref 0), .unset, .unset, .val (.int v4), .val (.int v4), .val (.int v5), .val (.int (v3 % v4))]) rfl ?_
      refine Wk.iload o_gcd_29 rfl ?_
      refine Wk.istore o_gcd_31 (Or.inr ⟨_, rfl, rfl⟩) (L' := [.val (.ref 0), .unset, .unset, .val (.int v4), .val (.int (v3 % v4)), .val (.int v5), .val (.int (v3 % v4))]) rfl ?_
      refine Wk.iinc o_gcd_33 rfl (z := (v5 + (1 : Int32))) rfl (L' := [.val (.ref 0), .unset, .unset, .val (.int v4), .val (.int (v3 % v4)), .val (.int (v5 + (1 : Int32))), .val (.int (v3 % v4))]) rfl ?_
      refine Wk.goto o_gcd_36 ?_
      refine Wk.forget [false, false, false, false, false, false, true] (L' := [.val (.ref 0), .unset, .unset, .val (.int v4), .val (.int (v3 % v4)), .val (.int (v5 + (1 : Int32))), .unset]) rfl rfl ?_
      exact (h6 q1 q3)

theorem rt_gcd (F : Nat → Int32) (G : Nat → Int64) (A : Nat → Int32 → Int32) (B : Nat → Int32 → Int64) (v0 : Int32) (r : Int32) (e : v0 = r) : some (Value.int v0) = some (.int r) ∧ (7, F, G, A, B) = (7, F, G, A, B) := by subst e; exact ⟨rfl, rfl⟩
def lp_gcd : Nat → Nat → Int32 → Int32 → Int32 → Option (Int32)
  | 0, _, _, _, _ => none
  | n + 1, tag, v3, v4, v5 => if tag = 8 then (if v5 < (64 : Int32) then (if v4 = 0 then some (v3) else (if (¬ v4 = (0 : Int32)) then lp_gcd n 8 v4 (v3 % v4) (v5 + (1 : Int32)) else none)) else some (v3)) else none
theorem lp_gcd_z (tag : Nat) (v3 : Int32) (v4 : Int32) (v5 : Int32) : lp_gcd 0 tag v3 v4 v5  = none := Eq.trans rfl rfl
theorem lp_gcd_8 (n : Nat) (v3 : Int32) (v4 : Int32) (v5 : Int32) : lp_gcd (n + 1) 8 v3 v4 v5  = (if v5 < (64 : Int32) then (if v4 = 0 then some (v3) else (if (¬ v4 = (0 : Int32)) then lp_gcd n 8 v4 (v3 % v4) (v5 + (1 : Int32)) else none)) else some (v3)) := by
  rw [lp_gcd, if_pos rfl]
set_option maxRecDepth 65536 in
set_option maxHeartbeats 4000000 in
theorem lpw_gcd {l : Launch} {Z : State} {a0 : Array Value} (H : OK Z a0) (F : Nat → Int32) (G : Nat → Int64) (A : Nat → Int32 → Int32) (B : Nat → Int32 → Int64) : ∀ (n : Nat) (v3 : Int32) (v4 : Int32) (v5 : Int32) (r : Int32), (lp_gcd n 8 v3 v4 v5  = some r → Wk l Z (MoC Z cdC) md_gcd 8 [.val (.ref 0), .unset, .unset, .val (.int v3), .val (.int v4), .val (.int v5), .unset] [] (7, F, G, A, B) 0 0 (fun v w' => v = some (.int r) ∧ w' = (7, F, G, A, B))) := by
  intro n
  induction n with
  | zero =>
    intro v3 v4 v5  r
    exact (fun h => by rw [lp_gcd_z] at h; cases h)
  | succ n ih =>
    intro v3 v4 v5  r
    refine fun h => ?_
    · rw [lp_gcd_8] at h
      exact wp_gcd_8 H F G A B v3 v4 v5 (fun q1 => (rt_gcd _ _ _ _ _ r (Option.some.inj (ifn q1 h)))) (fun q1 q3 => (rt_gcd _ _ _ _ _ r (Option.some.inj (ifp q3 (ifp q1 h))))) (fun q1 q3 => (gd (ifn q3 (ifp q1 h))).1) (fun q1 q3 => (ih _ _ _ _) (gd (ifn q3 (ifp q1 h))).2)
def en_gcd (p1 : Int32) (p2 : Int32) : Option (Int32) := lp_gcd 5000 8 p1 p2 (0 : Int32)
theorem een_gcd (p1 : Int32) (p2 : Int32) : en_gcd  p1 p2 = lp_gcd 5000 8 p1 p2 (0 : Int32) := Eq.trans rfl rfl
def R_gcd (p1 : Int32) (p2 : Int32) : Int32 := (en_gcd  p1 p2).getD (0)
theorem eR_gcd (p1 : Int32) (p2 : Int32) : R_gcd  p1 p2 = (en_gcd  p1 p2).getD (0) := Eq.trans rfl rfl
set_option maxRecDepth 65536 in
set_option maxHeartbeats 4000000 in
theorem run_gcd {l : Launch} {Z : State} {a0 : Array Value} (H : OK Z a0) (F : Nat → Int32) (G : Nat → Int64) (A : Nat → Int32 → Int32) (B : Nat → Int32 → Int64) (p1 : Int32) (p2 : Int32) (e1 : (en_gcd  p1 p2).isSome = true) :
    Wk l Z (MoC Z cdC) md_gcd 0 [.val (.ref 0), .val (.int p1), .val (.int p2), .unset, .unset, .unset, .unset] [] (7, F, G, A, B) 0 0 (fun v w' => v = some (.int (R_gcd  p1 p2)) ∧ w' = (7, F, G, A, B)) := by
  obtain ⟨r, h⟩ := Option.isSome_iff_exists.mp e1
  have e : R_gcd  p1 p2 = r := (eR_gcd  p1 p2).trans (getD_some h)
  rw [e]
  rw [een_gcd] at h
  exact wp_gcd H F G A B p1 p2 ((lpw_gcd H F G A B _ _ _ _ _) h)
set_option maxRecDepth 65536 in
set_option maxHeartbeats 4000000 in
theorem wp_lcm {l : Launch} {Z : State} {a0 : Array Value} (H : OK Z a0) (F : Nat → Int32) (G : Nat → Int64) (A : Nat → Int32 → Int32) (B : Nat → Int32 → Int64) (p1 : Int32) (p2 : Int32) {Q : Option Value → WO → Prop} (s1 : (en_gcd  p1 p2).isSome = true) (s3 : ¬ (R_gcd  p1 p2) = 0 → ¬ (R_gcd  p1 p2) = (0 : Int32)) (h4 : ¬ (R_gcd  p1 p2) = 0 → Q (some (.int ((p1 / (R_gcd  p1 p2)) * p2))) (7, F, G, A, B)) (h5 : (R_gcd  p1 p2) = 0 → Q (some (.int (0 : Int32))) (7, F, G, A, B)) :
    Wk l Z (MoC Z cdC) md_lcm 0 [.val (.ref 0), .val (.int p1), .val (.int p2), .unset] [] (7, F, G, A, B) 0 0 Q := by
  refine Wk.aloadN o_lcm_0 rfl ?_
  refine Wk.iloadN o_lcm_1 rfl ?_
  refine Wk.iloadN o_lcm_2 rfl ?_
  refine Wk.callF [.int p1, .int p2] [] (H.w 60 rfl) (cv_gcd H) o_lcm_3 (run_gcd H F G A B p1 p2 s1) (wt := 0) (cu' := 0) (su' := 0) (by decide) rfl rfl rfl rfl rfl rfl rfl ?_
  refine Wk.istoreN o_lcm_6 (Or.inl rfl) (L' := [.val (.ref 0), .val (.int p1), .val (.int p2), .val (.int (R_gcd  p1 p2))]) rfl ?_
  refine Wk.iloadN o_lcm_7 rfl ?_
  refine Wk.if_ne o_lcm_8 (fun q2 => ?_) (fun q2 => ?_)
  · refine Wk.iloadN o_lcm_13 rfl ?_
    refine Wk.iloadN o_lcm_14 rfl ?_
    refine Wk.idiv o_lcm_15 (s3 q2) ?_
    refine Wk.iloadN o_lcm_16 rfl ?_
    refine Wk.imul o_lcm_17 ?_
    exact Wk.ireturn mrC rfl o_lcm_18 rfl (by decide) (by decide) (h4 q2)
  · refine Wk.iconst o_lcm_11 (z := (0 : Int32)) (by decide) ?_
    exact Wk.ireturn mrC rfl o_lcm_12 rfl (by decide) (by decide) (h5 q2)

theorem rt_lcm (F : Nat → Int32) (G : Nat → Int64) (A : Nat → Int32 → Int32) (B : Nat → Int32 → Int64) (v0 : Int32) (r : Int32) (e : v0 = r) : some (Value.int v0) = some (.int r) ∧ (7, F, G, A, B) = (7, F, G, A, B) := by subst e; exact ⟨rfl, rfl⟩
def en_lcm (p1 : Int32) (p2 : Int32) : Option (Int32) := (if ((en_gcd  p1 p2).isSome = true) then (if (R_gcd  p1 p2) = 0 then some ((0 : Int32)) else (if (¬ (R_gcd  p1 p2) = (0 : Int32)) then some (((p1 / (R_gcd  p1 p2)) * p2)) else none)) else none)
theorem een_lcm (p1 : Int32) (p2 : Int32) : en_lcm  p1 p2 = (if ((en_gcd  p1 p2).isSome = true) then (if (R_gcd  p1 p2) = 0 then some ((0 : Int32)) else (if (¬ (R_gcd  p1 p2) = (0 : Int32)) then some (((p1 / (R_gcd  p1 p2)) * p2)) else none)) else none) := Eq.trans rfl rfl
def R_lcm (p1 : Int32) (p2 : Int32) : Int32 := (en_lcm  p1 p2).getD (0)
theorem eR_lcm (p1 : Int32) (p2 : Int32) : R_lcm  p1 p2 = (en_lcm  p1 p2).getD (0) := Eq.trans rfl rfl
set_option maxRecDepth 65536 in
set_option maxHeartbeats 4000000 in
theorem run_lcm {l : Launch} {Z : State} {a0 : Array Value} (H : OK Z a0) (F : Nat → Int32) (G : Nat → Int64) (A : Nat → Int32 → Int32) (B : Nat → Int32 → Int64) (p1 : Int32) (p2 : Int32) (e1 : (en_lcm  p1 p2).isSome = true) :
    Wk l Z (MoC Z cdC) md_lcm 0 [.val (.ref 0), .val (.int p1), .val (.int p2), .unset] [] (7, F, G, A, B) 0 0 (fun v w' => v = some (.int (R_lcm  p1 p2)) ∧ w' = (7, F, G, A, B)) := by
  obtain ⟨r, h⟩ := Option.isSome_iff_exists.mp e1
  have e : R_lcm  p1 p2 = r := (eR_lcm  p1 p2).trans (getD_some h)
  rw [e]
  rw [een_lcm] at h
  exact wp_lcm H F G A B p1 p2 ((gd h).1) (fun q2 => (gd (ifn q2 (gd h).2)).1) (fun q2 => (rt_lcm _ _ _ _ _ r (Option.some.inj (gd (ifn q2 (gd h).2)).2))) (fun q2 => (rt_lcm _ _ _ _ _ r (Option.some.inj (ifp q2 (gd h).2))))
set_option maxRecDepth 65536 in
set_option maxHeartbeats 4000000 in
theorem wp_resetDispatcher {l : Launch} {Z : State} {a0 : Array Value} (H : OK Z a0) (F : Nat → Int32) (G : Nat → Int64) (A : Nat → Int32 → Int32) (B : Nat → Int32 → Int64) {Q : Option Value → WO → Prop} (h1 : Wk l Z (MoC Z cdC) md_resetDispatcher 12 [.val (.ref 0), .val (.int (0 : Int32))] [] (7, (ups (ups F 7 (0 : Int32)) 8 (0 : Int32)), G, A, B) 0 0 Q) :
    Wk l Z (MoC Z cdC) md_resetDispatcher 0 [.val (.ref 0), .unset] [] (7, F, G, A, B) 0 0 Q := by
  refine Wk.aloadN o_resetDispatcher_0 rfl ?_
  refine Wk.iconst o_resetDispatcher_1 (z := (0 : Int32)) (by decide) ?_
  refine Wk.putI (coC H) (mI_now) (wf_now H) (Or.inl (wy_now H)) o_resetDispatcher_2 ?_
  refine Wk.aloadN o_resetDispatcher_5 rfl ?_
  refine Wk.iconst o_resetDispatcher_6 (z := (0 : Int32)) (by decide) ?_
  refine Wk.putI (coC H) (mI_pos) (wf_pos H) (Or.inl (wy_pos H)) o_resetDispatcher_7 ?_
  refine Wk.iconst o_resetDispatcher_10 (z := (0 : Int32)) (by decide) ?_
  refine Wk.istoreN o_resetDispatcher_11 (Or.inl rfl) (L' := [.val (.ref 0), .val (.int (0 : Int32))]) rfl ?_
  exact h1

set_option maxRecDepth 65536 in
set_option maxHeartbeats 4000000 in
theorem wp_resetDispatcher_12 {l : Launch} {Z : State} {a0 : Array Value} (H : OK Z a0) (F : Nat → Int32) (G : Nat → Int64) (A : Nat → Int32 → Int32) (B : Nat → Int32 → Int64) (v1 : Int32) {Q : Option Value → WO → Prop} (h2 : ¬ v1 < (8 : Int32) → Q none (7, F, G, A, B)) (s3 : v1 < (8 : Int32) → ¬ v1 < 0) (h4 : v1 < (8 : Int32) → Wk l Z (MoC Z cdC) md_resetDispatcher 12 [.val (.ref 0), .val (.int (v1 + (1 : Int32)))] [] (7, F, G, (ups A 3 (ups (A 3) v1 (0 : Int32))), B) 0 0 Q) :
    Wk l Z (MoC Z cdC) md_resetDispatcher 12 [.val (.ref 0), .val (.int v1)] [] (7, F, G, A, B) 0 0 Q := by
  refine Wk.iloadN o_resetDispatcher_12 rfl ?_
  refine Wk.bipush o_resetDispatcher_13 (z := (8 : Int32)) (by decide) ?_
  refine Wk.icmp_ge o_resetDispatcher_15 (fun q1 => ?_) (fun q1 => ?_)
  · exact Wk.ret mrC rfl o_resetDispatcher_31 rfl (by decide) (by decide) (h2 q1)
  · refine Wk.aloadN o_resetDispatcher_18 rfl ?_
    refine Wk.getA (mA_runCnt) (by decide) (i' := 4) rfl (wf_runCnt H) o_resetDispatcher_19 ?_
    refine Wk.iloadN o_resetDispatcher_22 rfl ?_
    refine Wk.iconst o_resetDispatcher_23 (z := (0 : Int32)) (by decide) ?_
    refine Wk.iastore (coC H) (f := (A 3)) (mA_runCnt) rfl (by decide) (i' := 4) rfl (s3 q1) q1 o_resetDispatcher_24 ?_
    refine Wk.iinc o_resetDispatcher_25 rfl (z := (v1 + (1 : Int32))) rfl (L' := [.val (.ref 0), .val (.int (v1 + (1 : Int32)))]) rfl ?_
    refine Wk.goto o_resetDispatcher_28 ?_
    exact (h4 q1)

theorem rt_resetDispatcher (G : Nat → Int64) (B : Nat → Int32 → Int64) (v0 : Int32) (xF : Nat → Int32) (xA : Nat → Int32 → Int32) (r : Int32 × (Nat → Int32) × (Nat → Int32 → Int32)) (e : (v0, xF, xA) = r) : (none : Option Value) = none ∧ (7, xF, G, xA, B) = (7, r.2.1, G, r.2.2, B) := by subst e; exact ⟨rfl, rfl⟩
def lp_resetDispatcher : Nat → Nat → Int32 → (Nat → Int32) → (Nat → Int32 → Int32) → Option (Int32 × (Nat → Int32) × (Nat → Int32 → Int32))
  | 0, _, _, _, _ => none
  | n + 1, tag, v1, F, A => if tag = 12 then (if v1 < (8 : Int32) then (if (¬ v1 < 0) then lp_resetDispatcher n 12 (v1 + (1 : Int32)) F (ups A 3 (ups (A 3) v1 (0 : Int32))) else none) else some ((0 : Int32), F, A)) else none
theorem lp_resetDispatcher_z (tag : Nat) (v1 : Int32) (F : Nat → Int32) (A : Nat → Int32 → Int32) : lp_resetDispatcher 0 tag v1 F A = none := Eq.trans rfl rfl
theorem lp_resetDispatcher_12 (n : Nat) (v1 : Int32) (F : Nat → Int32) (A : Nat → Int32 → Int32) : lp_resetDispatcher (n + 1) 12 v1 F A = (if v1 < (8 : Int32) then (if (¬ v1 < 0) then lp_resetDispatcher n 12 (v1 + (1 : Int32)) F (ups A 3 (ups (A 3) v1 (0 : Int32))) else none) else some ((0 : Int32), F, A)) := by
  rw [lp_resetDispatcher, if_pos rfl]
set_option maxRecDepth 65536 in
set_option maxHeartbeats 4000000 in
theorem lpw_resetDispatcher {l : Launch} {Z : State} {a0 : Array Value} (H : OK Z a0) (G : Nat → Int64) (B : Nat → Int32 → Int64) : ∀ (n : Nat) (v1 : Int32) (F : Nat → Int32) (A : Nat → Int32 → Int32) (r : Int32 × (Nat → Int32) × (Nat → Int32 → Int32)), (lp_resetDispatcher n 12 v1 F A = some r → Wk l Z (MoC Z cdC) md_resetDispatcher 12 [.val (.ref 0), .val (.int v1)] [] (7, F, G, A, B) 0 0 (fun v w' => v = none ∧ w' = (7, r.2.1, G, r.2.2, B))) := by
  intro n
  induction n with
  | zero =>
    intro v1 F A r
    exact (fun h => by rw [lp_resetDispatcher_z] at h; cases h)
  | succ n ih =>
    intro v1 F A r
    refine fun h => ?_
    · rw [lp_resetDispatcher_12] at h
      exact wp_resetDispatcher_12 H F G A B v1 (fun q1 => (rt_resetDispatcher _ _ _ _ _ r (Option.some.inj (ifn q1 h)))) (fun q1 => (gd (ifp q1 h)).1) (fun q1 => (ih _ _ _ _) (gd (ifp q1 h)).2)
def en_resetDispatcher (F : Nat → Int32) (A : Nat → Int32 → Int32) : Option (Int32 × (Nat → Int32) × (Nat → Int32 → Int32)) := lp_resetDispatcher 5000 12 (0 : Int32) (ups (ups F 7 (0 : Int32)) 8 (0 : Int32)) A
theorem een_resetDispatcher (F : Nat → Int32) (A : Nat → Int32 → Int32) : en_resetDispatcher F A  = lp_resetDispatcher 5000 12 (0 : Int32) (ups (ups F 7 (0 : Int32)) 8 (0 : Int32)) A := Eq.trans rfl rfl
def R_resetDispatcher (F : Nat → Int32) (A : Nat → Int32 → Int32) : Int32 × (Nat → Int32) × (Nat → Int32 → Int32) := (en_resetDispatcher F A ).getD (0, (fun _ => 0), (fun _ _ => 0))
theorem eR_resetDispatcher (F : Nat → Int32) (A : Nat → Int32 → Int32) : R_resetDispatcher F A  = (en_resetDispatcher F A ).getD (0, (fun _ => 0), (fun _ _ => 0)) := Eq.trans rfl rfl
set_option maxRecDepth 65536 in
set_option maxHeartbeats 4000000 in
theorem run_resetDispatcher {l : Launch} {Z : State} {a0 : Array Value} (H : OK Z a0) (F : Nat → Int32) (G : Nat → Int64) (A : Nat → Int32 → Int32) (B : Nat → Int32 → Int64) (e1 : (en_resetDispatcher F A ).isSome = true) :
    Wk l Z (MoC Z cdC) md_resetDispatcher 0 [.val (.ref 0), .unset] [] (7, F, G, A, B) 0 0 (fun v w' => v = none ∧ w' = (7, (R_resetDispatcher F A ).2.1, G, (R_resetDispatcher F A ).2.2, B)) := by
  obtain ⟨r, h⟩ := Option.isSome_iff_exists.mp e1
  have e : R_resetDispatcher F A  = r := (eR_resetDispatcher F A ).trans (getD_some h)
  rw [e]
  rw [een_resetDispatcher] at h
  exact wp_resetDispatcher H F G A B  ((lpw_resetDispatcher H G B _ _ _ _ _) h)
set_option maxRecDepth 65536 in
set_option maxHeartbeats 4000000 in
theorem wp_addTask {l : Launch} {Z : State} {a0 : Array Value} (H : OK Z a0) (F : Nat → Int32) (G : Nat → Int64) (A : Nat → Int32 → Int32) (B : Nat → Int32 → Int64) (p1 : Int32) (p2 : Int32) (p3 : Int32) {Q : Option Value → WO → Prop} (h2 : p1 < (1 : Int32) → Q (some (.int (-1 : Int32))) (7, F, G, A, B)) (h4 : ¬ p1 < (1 : Int32) → (128 : Int32) < p1 → Q (some (.int (-1 : Int32))) (7, F, G, A, B)) (h6 : ¬ p1 < (1 : Int32) → ¬ (128 : Int32) < p1 → p3 < (1 : Int32) → Q (some (.int (-1 : Int32))) (7, F, G, A, B)) (h8 : ¬ p1 < (1 : Int32) → ¬ (128 : Int32) < p1 → ¬ p3 < (1 : Int32) → p1 < p3 → Q (some (.int (-1 : Int32))) (7, F, G, A, B)) (h10 : ¬ p1 < (1 : Int32) → ¬ (128 : Int32) < p1 → ¬ p3 < (1 : Int32) → ¬ p1 < p3 → p2 < (1 : Int32) → Q (some (.int (-1 : Int32))) (7, F, G, A, B)) (s15 : ¬ p1 < (1 : Int32) → ¬ (128 : Int32) < p1 → ¬ p3 < (1 : Int32) → ¬ p1 < p3 → ¬ p2 < (1 : Int32) → ¬ p3 < p2 → (F 2) < (F 0) → (en_lcm  (if (F 2) = 0 then (1 : Int32) else (F 3)) p1).isSome = true) (s17 : ¬ p1 < (1 : Int32) → ¬ (128 : Int32) < p1 → ¬ p3 < (1 : Int32) → ¬ p1 < p3 → ¬ p2 < (1 : Int32) → ¬ p3 < p2 → (F 2) < (F 0) → ¬ (F 1) < (R_lcm  (if (F 2) = 0 then (1 : Int32) else (F 3)) p1) → ¬ (F 2) < 0) (s18 : ¬ p1 < (1 : Int32) → ¬ (128 : Int32) < p1 → ¬ p3 < (1 : Int32) → ¬ p1 < p3 → ¬ p2 < (1 : Int32) → ¬ p3 < p2 → (F 2) < (F 0) → ¬ (F 1) < (R_lcm  (if (F 2) = 0 then (1 : Int32) else (F 3)) p1) → (F 2) < (8 : Int32)) (s19 : ¬ p1 < (1 : Int32) → ¬ (128 : Int32) < p1 → ¬ p3 < (1 : Int32) → ¬ p1 < p3 → ¬ p2 < (1 : Int32) → ¬ p3 < p2 → (F 2) < (F 0) → ¬ (F 1) < (R_lcm  (if (F 2) = 0 then (1 : Int32) else (F 3)) p1) → (en_resetDispatcher (ups (ups (ups (ups (ups F 2 ((F 2) + (1 : Int32))) 3 (R_lcm  (if (F 2) = 0 then (1 : Int32) else (F 3)) p1)) 4 (0 : Int32)) 5 (0 : Int32)) 6 (-1 : Int32)) (ups (ups (ups A 0 (ups (A 0) (F 2) p1)) 1 (ups (A 1) (F 2) p2)) 2 (ups (A 2) (F 2) p3)) ).isSome = true) (h20 : ¬ p1 < (1 : Int32) → ¬ (128 : Int32) < p1 → ¬ p3 < (1 : Int32) → ¬ p1 < p3 → ¬ p2 < (1 : Int32) → ¬ p3 < p2 → (F 2) < (F 0) → ¬ (F 1) < (R_lcm  (if (F 2) = 0 then (1 : Int32) else (F 3)) p1) → Q (some (.int (F 2))) (7, (R_resetDispatcher (ups (ups (ups (ups (ups F 2 ((F 2) + (1 : Int32))) 3 (R_lcm  (if (F 2) = 0 then (1 : Int32) else (F 3)) p1)) 4 (0 : Int32)) 5 (0 : Int32)) 6 (-1 : Int32)) (ups (ups (ups A 0 (ups (A 0) (F 2) p1)) 1 (ups (A 1) (F 2) p2)) 2 (ups (A 2) (F 2) p3)) ).2.1, G, (R_resetDispatcher (ups (ups (ups (ups (ups F 2 ((F 2) + (1 : Int32))) 3 (R_lcm  (if (F 2) = 0 then (1 : Int32) else (F 3)) p1)) 4 (0 : Int32)) 5 (0 : Int32)) 6 (-1 : Int32)) (ups (ups (ups A 0 (ups (A 0) (F 2) p1)) 1 (ups (A 1) (F 2) p2)) 2 (ups (A 2) (F 2) p3)) ).2.2, B)) (h21 : ¬ p1 < (1 : Int32) → ¬ (128 : Int32) < p1 → ¬ p3 < (1 : Int32) → ¬ p1 < p3 → ¬ p2 < (1 : Int32) → ¬ p3 < p2 → (F 2) < (F 0) → (F 1) < (R_lcm  (if (F 2) = 0 then (1 : Int32) else (F 3)) p1) → Q (some (.int (-3 : Int32))) (7, F, G, A, B)) (h22 : ¬ p1 < (1 : Int32) → ¬ (128 : Int32) < p1 → ¬ p3 < (1 : Int32) → ¬ p1 < p3 → ¬ p2 < (1 : Int32) → ¬ p3 < p2 → ¬ (F 2) < (F 0) → Q (some (.int (-2 : Int32))) (7, F, G, A, B)) (h23 : ¬ p1 < (1 : Int32) → ¬ (128 : Int32) < p1 → ¬ p3 < (1 : Int32) → ¬ p1 < p3 → ¬ p2 < (1 : Int32) → p3 < p2 → Q (some (.int (-1 : Int32))) (7, F, G, A, B)) :
    Wk l Z (MoC Z cdC) md_addTask 0 [.val (.ref 0), .val (.int p1), .val (.int p2), .val (.int p3), .unset, .unset, .unset] [] (7, F, G, A, B) 0 0 Q := by
  refine Wk.iloadN o_addTask_0 rfl ?_
  refine Wk.iconst o_addTask_1 (z := (1 : Int32)) (by decide) ?_
  refine Wk.icmp_lt o_addTask_2 (fun q1 => ?_) (fun q1 => ?_)
  · refine Wk.iconst o_addTask_32 (z := (-1 : Int32)) (by decide) ?_
    exact Wk.ireturn mrC rfl o_addTask_33 rfl (by decide) (by decide) (h2 q1)
  · refine Wk.iloadN o_addTask_5 rfl ?_
    refine Wk.sipush o_addTask_6 (z := (128 : Int32)) (by decide) ?_
    refine Wk.icmp_gt o_addTask_9 (fun q3 => ?_) (fun q3 => ?_)
    · refine Wk.iconst o_addTask_32 (z := (-1 : Int32)) (by decide) ?_
      exact Wk.ireturn mrC rfl o_addTask_33 rfl (by decide) (by decide) (h4 q1 q3)
    · refine Wk.iloadN o_addTask_12 rfl ?_
      refine Wk.iconst o_addTask_13 (z := (1 : Int32)) (by decide) ?_
      refine Wk.icmp_lt o_addTask_14 (fun q5 => ?_) (fun q5 => ?_)
      · refine Wk.iconst o_addTask_32 (z := (-1 : Int32)) (by decide) ?_
        exact Wk.ireturn mrC rfl o_addTask_33 rfl (by decide) (by decide) (h6 q1 q3 q5)
      · refine Wk.iloadN o_addTask_17 rfl ?_
        refine Wk.iloadN o_addTask_18 rfl ?_
        refine Wk.icmp_gt o_addTask_19 (fun q7 => ?_) (fun q7 => ?_)
        · refine Wk.iconst o_addTask_32 (z := (-1 : Int32)) (by decide) ?_
          exact Wk.ireturn mrC rfl o_addTask_33 rfl (by decide) (by decide) (h8 q1 q3 q5 q7)
        · refine Wk.iloadN o_addTask_22 rfl ?_
          refine Wk.iconst o_addTask_23 (z := (1 : Int32)) (by decide) ?_
          refine Wk.icmp_lt o_addTask_24 (fun q9 => ?_) (fun q9 => ?_)
          · refine Wk.iconst o_addTask_32 (z := (-1 : Int32)) (by decide) ?_
            exact Wk.ireturn mrC rfl o_addTask_33 rfl (by decide) (by decide) (h10 q1 q3 q5 q7 q9)
          · refine Wk.iloadN o_addTask_27 rfl ?_
            refine Wk.iloadN o_addTask_28 rfl ?_
            refine Wk.icmp_le o_addTask_29 (fun q11 => ?_) (fun q11 => ?_)
            · refine Wk.aloadN o_addTask_34 rfl ?_
              refine Wk.getI (mI_count) (wf_count H) o_addTask_35 (x := (F 2)) rfl ?_
              refine Wk.aloadN o_addTask_38 rfl ?_
              refine Wk.getI (mI_maxTasks) (wf_maxTasks H) o_addTask_39 (x := (F 0)) rfl ?_
              refine Wk.icmp_lt o_addTask_42 (fun q12 => ?_) (fun q12 => ?_)
              · refine Wk.aloadN o_addTask_48 rfl ?_
                refine Wk.getI (mI_count) (wf_count H) o_addTask_49 (x := (F 2)) rfl ?_
                have J14 : Wk l Z (MoC Z cdC) md_addTask 63 [.val (.ref 0), .val (.int p1), .val (.int p2), .val (.int p3), .unset, .unset, .unset] [.int (if (F 2) = 0 then (1 : Int32) else (F 3))] (7, F, G, A, B) 0 0 Q := by
                  refine Wk.istore o_addTask_63 (Or.inl rfl) (L' := [.val (.ref 0), .val (.int p1), .val (.int p2), .val (.int p3), .val (.int (if (F 2) = 0 then (1 : Int32) else (F 3))), .unset, .unset]) rfl ?_
                  refine Wk.aloadN o_addTask_65 rfl ?_
                  refine Wk.iload o_addTask_66 rfl ?_
                  refine Wk.iloadN o_addTask_68 rfl ?_
                  refine Wk.callF [.int (if (F 2) = 0 then (1 : Int32) else (F 3)), .int p1] [] (H.w 56 rfl) (cv_lcm H) o_addTask_69 (run_lcm H F G A B (if (F 2) = 0 then (1 : Int32) else (F 3)) p1 (s15 q1 q3 q5 q7 q9 q11 q12)) (wt := 0) (cu' := 0) (su' := 0) (by decide) rfl rfl rfl rfl rfl rfl rfl ?_
                  refine Wk.istore o_addTask_72 (Or.inl rfl) (L' := [.val (.ref 0), .val (.int p1), .val (.int p2), .val (.int p3), .val (.int (if (F 2) = 0 then (1 : Int32) else (F 3))), .val (.int (R_lcm  (if (F 2) = 0 then (1 : Int32) else (F 3)) p1)), .unset]) rfl ?_
                  refine Wk.iload o_addTask_74 rfl ?_
                  refine Wk.aloadN o_addTask_76 rfl ?_
                  refine Wk.getI (mI_maxHyper) (wf_maxHyper H) o_addTask_77 (x := (F 1)) rfl ?_
                  refine Wk.icmp_le o_addTask_80 (fun q16 => ?_) (fun q16 => ?_)
                  · refine Wk.aloadN o_addTask_86 rfl ?_
                    refine Wk.getI (mI_count) (wf_count H) o_addTask_87 (x := (F 2)) rfl ?_
                    refine Wk.istore o_addTask_90 (Or.inl rfl) (L' := [.val (.ref 0), .val (.int p1), .val (.int p2), .val (.int p3), .val (.int (if (F 2) = 0 then (1 : Int32) else (F 3))), .val (.int (R_lcm  (if (F 2) = 0 then (1 : Int32) else (F 3)) p1)), .val (.int (F 2))]) rfl ?_
                    refine Wk.aloadN o_addTask_92 rfl ?_
                    refine Wk.getA (mA_per) (by decide) (i' := 1) rfl (wf_per H) o_addTask_93 ?_
                    refine Wk.iload o_addTask_96 rfl ?_
                    refine Wk.iloadN o_addTask_98 rfl ?_
                    refine Wk.iastore (coC H) (f := (A 0)) (mA_per) rfl (by decide) (i' := 1) rfl (s17 q1 q3 q5 q7 q9 q11 q12 q16) (s18 q1 q3 q5 q7 q9 q11 q12 q16) o_addTask_99 ?_
                    refine Wk.aloadN o_addTask_100 rfl ?_
                    refine Wk.getA (mA_exe) (by decide) (i' := 2) rfl (wf_exe H) o_addTask_101 ?_
                    refine Wk.iload o_addTask_104 rfl ?_
                    refine Wk.iloadN o_addTask_106 rfl ?_
                    refine Wk.iastore (coC H) (f := (A 1)) (mA_exe) rfl (by decide) (i' := 2) rfl (s17 q1 q3 q5 q7 q9 q11 q12 q16) (s18 q1 q3 q5 q7 q9 q11 q12 q16) o_addTask_107 ?_
                    refine Wk.aloadN o_addTask_108 rfl ?_
                    refine Wk.getA (mA_dl) (by decide) (i' := 3) rfl (wf_dl H) o_addTask_109 ?_
                    refine Wk.iload o_addTask_112 rfl ?_
                    refine Wk.iloadN o_addTask_114 rfl ?_
                    refine Wk.iastore (coC H) (f := (A 2)) (mA_dl) rfl (by decide) (i' := 3) rfl (s17 q1 q3 q5 q7 q9 q11 q12 q16) (s18 q1 q3 q5 q7 q9 q11 q12 q16) o_addTask_115 ?_
                    refine Wk.aloadN o_addTask_116 rfl ?_
                    refine Wk.dup o_addTask_117 rfl ?_
                    refine Wk.getI (mI_count) (wf_count H) o_addTask_118 (x := (F 2)) rfl ?_
                    refine Wk.iconst o_addTask_121 (z := (1 : Int32)) (by decide) ?_
                    refine Wk.iadd o_addTask_122 ?_
                    refine Wk.putI (coC H) (mI_count) (wf_count H) (Or.inl (wy_count H)) o_addTask_123 ?_
                    refine Wk.aloadN o_addTask_126 rfl ?_
                    refine Wk.iload o_addTask_127 rfl ?_
                    refine Wk.putI (coC H) (mI_hyper) (wf_hyper H) (Or.inl (wy_hyper H)) o_addTask_129 ?_
                    refine Wk.aloadN o_addTask_132 rfl ?_
                    refine Wk.iconst o_addTask_133 (z := (0 : Int32)) (by decide) ?_
                    refine Wk.putZ (coC H) (y := (0 : Int32)) (by decide) (mI_present) (wf_present H) (Or.inl (wy_present H)) o_addTask_134 ?_
                    refine Wk.aloadN o_addTask_137 rfl ?_
                    refine Wk.iconst o_addTask_138 (z := (0 : Int32)) (by decide) ?_
                    refine Wk.putI (coC H) (mI_frame) (wf_frame H) (Or.inl (wy_frame H)) o_addTask_139 ?_
                    refine Wk.aloadN o_addTask_142 rfl ?_
                    refine Wk.iconst o_addTask_143 (z := (-1 : Int32)) (by decide) ?_
                    refine Wk.putI (coC H) (mI_miss) (wf_miss H) (Or.inl (wy_miss H)) o_addTask_144 ?_
                    refine Wk.aloadN o_addTask_147 rfl ?_
                    refine Wk.callU [] [] (H.w 64 rfl) (cv_resetDispatcher H) o_addTask_148 (run_resetDispatcher H (ups (ups (ups (ups (ups F 2 ((F 2) + (1 : Int32))) 3 (R_lcm  (if (F 2) = 0 then (1 : Int32) else (F 3)) p1)) 4 (0 : Int32)) 5 (0 : Int32)) 6 (-1 : Int32)) G (ups (ups (ups A 0 (ups (A 0) (F 2) p1)) 1 (ups (A 1) (F 2) p2)) 2 (ups (A 2) (F 2) p3)) B (s19 q1 q3 q5 q7 q9 q11 q12 q16)) (wt := 0) (cu' := 0) (su' := 0) (by decide) rfl rfl rfl rfl rfl rfl rfl ?_
                    refine Wk.iload o_addTask_151 rfl ?_
                    exact Wk.ireturn mrC rfl o_addTask_153 rfl (by decide) (by decide) (h20 q1 q3 q5 q7 q9 q11 q12 q16)
                  · refine Wk.bipush o_addTask_83 (z := (-3 : Int32)) (by decide) ?_
                    exact Wk.ireturn mrC rfl o_addTask_85 rfl (by decide) (by decide) (h21 q1 q3 q5 q7 q9 q11 q12 q16)
                refine Wk.if_ne o_addTask_52 (fun q13 => ?_) (fun q13 => ?_)
                · refine Wk.aloadN o_addTask_59 rfl ?_
                  refine Wk.getI (mI_hyper) (wf_hyper H) o_addTask_60 (x := (F 3)) rfl ?_
                  first | (rw [show ((if (F 2) = 0 then (1 : Int32) else (F 3)) : Int32) = (F 3) from if_neg q13] at J14; exact J14) | exact J14 | (simp only [if_neg q13] at J14 ⊢; exact J14)
                · refine Wk.iconst o_addTask_55 (z := (1 : Int32)) (by decide) ?_
                  refine Wk.goto o_addTask_56 ?_
                  first | (rw [show ((if (F 2) = 0 then (1 : Int32) else (F 3)) : Int32) = (1 : Int32) from if_pos q13] at J14; exact J14) | exact J14 | (simp only [if_pos q13] at J14 ⊢; exact J14)
              · refine Wk.bipush o_addTask_45 (z := (-2 : Int32)) (by decide) ?_
                exact Wk.ireturn mrC rfl o_addTask_47 rfl (by decide) (by decide) (h22 q1 q3 q5 q7 q9 q11 q12)
            · refine Wk.iconst o_addTask_32 (z := (-1 : Int32)) (by decide) ?_
              exact Wk.ireturn mrC rfl o_addTask_33 rfl (by decide) (by decide) (h23 q1 q3 q5 q7 q9 q11)

theorem rt_addTask (G : Nat → Int64) (B : Nat → Int32 → Int64) (v0 : Int32) (xF : Nat → Int32) (xA : Nat → Int32 → Int32) (r : Int32 × (Nat → Int32) × (Nat → Int32 → Int32)) (e : (v0, xF, xA) = r) : some (Value.int v0) = some (.int r.1) ∧ (7, xF, G, xA, B) = (7, r.2.1, G, r.2.2, B) := by subst e; exact ⟨rfl, rfl⟩
def en_addTask (F : Nat → Int32) (A : Nat → Int32 → Int32) (p1 : Int32) (p2 : Int32) (p3 : Int32) : Option (Int32 × (Nat → Int32) × (Nat → Int32 → Int32)) := (if p1 < (1 : Int32) then some ((-1 : Int32), F, A) else (if (128 : Int32) < p1 then some ((-1 : Int32), F, A) else (if p3 < (1 : Int32) then some ((-1 : Int32), F, A) else (if p1 < p3 then some ((-1 : Int32), F, A) else (if p2 < (1 : Int32) then some ((-1 : Int32), F, A) else (if p3 < p2 then some ((-1 : Int32), F, A) else (if (F 2) < (F 0) then (if ((en_lcm  (if (F 2) = 0 then (1 : Int32) else (F 3)) p1).isSome = true) then (if (F 1) < (R_lcm  (if (F 2) = 0 then (1 : Int32) else (F 3)) p1) then some ((-3 : Int32), F, A) else (if (¬ (F 2) < 0) ∧ ((F 2) < (8 : Int32)) ∧ ((en_resetDispatcher (ups (ups (ups (ups (ups F 2 ((F 2) + (1 : Int32))) 3 (R_lcm  (if (F 2) = 0 then (1 : Int32) else (F 3)) p1)) 4 (0 : Int32)) 5 (0 : Int32)) 6 (-1 : Int32)) (ups (ups (ups A 0 (ups (A 0) (F 2) p1)) 1 (ups (A 1) (F 2) p2)) 2 (ups (A 2) (F 2) p3)) ).isSome = true) then some ((F 2), (R_resetDispatcher (ups (ups (ups (ups (ups F 2 ((F 2) + (1 : Int32))) 3 (R_lcm  (if (F 2) = 0 then (1 : Int32) else (F 3)) p1)) 4 (0 : Int32)) 5 (0 : Int32)) 6 (-1 : Int32)) (ups (ups (ups A 0 (ups (A 0) (F 2) p1)) 1 (ups (A 1) (F 2) p2)) 2 (ups (A 2) (F 2) p3)) ).2.1, (R_resetDispatcher (ups (ups (ups (ups (ups F 2 ((F 2) + (1 : Int32))) 3 (R_lcm  (if (F 2) = 0 then (1 : Int32) else (F 3)) p1)) 4 (0 : Int32)) 5 (0 : Int32)) 6 (-1 : Int32)) (ups (ups (ups A 0 (ups (A 0) (F 2) p1)) 1 (ups (A 1) (F 2) p2)) 2 (ups (A 2) (F 2) p3)) ).2.2) else none)) else none) else some ((-2 : Int32), F, A))))))))
theorem een_addTask (F : Nat → Int32) (A : Nat → Int32 → Int32) (p1 : Int32) (p2 : Int32) (p3 : Int32) : en_addTask F A p1 p2 p3 = (if p1 < (1 : Int32) then some ((-1 : Int32), F, A) else (if (128 : Int32) < p1 then some ((-1 : Int32), F, A) else (if p3 < (1 : Int32) then some ((-1 : Int32), F, A) else (if p1 < p3 then some ((-1 : Int32), F, A) else (if p2 < (1 : Int32) then some ((-1 : Int32), F, A) else (if p3 < p2 then some ((-1 : Int32), F, A) else (if (F 2) < (F 0) then (if ((en_lcm  (if (F 2) = 0 then (1 : Int32) else (F 3)) p1).isSome = true) then (if (F 1) < (R_lcm  (if (F 2) = 0 then (1 : Int32) else (F 3)) p1) then some ((-3 : Int32), F, A) else (if (¬ (F 2) < 0) ∧ ((F 2) < (8 : Int32)) ∧ ((en_resetDispatcher (ups (ups (ups (ups (ups F 2 ((F 2) + (1 : Int32))) 3 (R_lcm  (if (F 2) = 0 then (1 : Int32) else (F 3)) p1)) 4 (0 : Int32)) 5 (0 : Int32)) 6 (-1 : Int32)) (ups (ups (ups A 0 (ups (A 0) (F 2) p1)) 1 (ups (A 1) (F 2) p2)) 2 (ups (A 2) (F 2) p3)) ).isSome = true) then some ((F 2), (R_resetDispatcher (ups (ups (ups (ups (ups F 2 ((F 2) + (1 : Int32))) 3 (R_lcm  (if (F 2) = 0 then (1 : Int32) else (F 3)) p1)) 4 (0 : Int32)) 5 (0 : Int32)) 6 (-1 : Int32)) (ups (ups (ups A 0 (ups (A 0) (F 2) p1)) 1 (ups (A 1) (F 2) p2)) 2 (ups (A 2) (F 2) p3)) ).2.1, (R_resetDispatcher (ups (ups (ups (ups (ups F 2 ((F 2) + (1 : Int32))) 3 (R_lcm  (if (F 2) = 0 then (1 : Int32) else (F 3)) p1)) 4 (0 : Int32)) 5 (0 : Int32)) 6 (-1 : Int32)) (ups (ups (ups A 0 (ups (A 0) (F 2) p1)) 1 (ups (A 1) (F 2) p2)) 2 (ups (A 2) (F 2) p3)) ).2.2) else none)) else none) else some ((-2 : Int32), F, A)))))))) := Eq.trans rfl rfl
def R_addTask (F : Nat → Int32) (A : Nat → Int32 → Int32) (p1 : Int32) (p2 : Int32) (p3 : Int32) : Int32 × (Nat → Int32) × (Nat → Int32 → Int32) := (en_addTask F A p1 p2 p3).getD (0, (fun _ => 0), (fun _ _ => 0))
theorem eR_addTask (F : Nat → Int32) (A : Nat → Int32 → Int32) (p1 : Int32) (p2 : Int32) (p3 : Int32) : R_addTask F A p1 p2 p3 = (en_addTask F A p1 p2 p3).getD (0, (fun _ => 0), (fun _ _ => 0)) := Eq.trans rfl rfl
set_option maxRecDepth 65536 in
set_option maxHeartbeats 4000000 in
theorem run_addTask {l : Launch} {Z : State} {a0 : Array Value} (H : OK Z a0) (F : Nat → Int32) (G : Nat → Int64) (A : Nat → Int32 → Int32) (B : Nat → Int32 → Int64) (p1 : Int32) (p2 : Int32) (p3 : Int32) (e1 : (en_addTask F A p1 p2 p3).isSome = true) :
    Wk l Z (MoC Z cdC) md_addTask 0 [.val (.ref 0), .val (.int p1), .val (.int p2), .val (.int p3), .unset, .unset, .unset] [] (7, F, G, A, B) 0 0 (fun v w' => v = some (.int (R_addTask F A p1 p2 p3).1) ∧ w' = (7, (R_addTask F A p1 p2 p3).2.1, G, (R_addTask F A p1 p2 p3).2.2, B)) := by
  obtain ⟨r, h⟩ := Option.isSome_iff_exists.mp e1
  have e : R_addTask F A p1 p2 p3 = r := (eR_addTask F A p1 p2 p3).trans (getD_some h)
  rw [e]
  rw [een_addTask] at h
  exact wp_addTask H F G A B p1 p2 p3 (fun q1 => (rt_addTask _ _ _ _ _ r (Option.some.inj (ifp q1 h)))) (fun q1 q3 => (rt_addTask _ _ _ _ _ r (Option.some.inj (ifp q3 (ifn q1 h))))) (fun q1 q3 q5 => (rt_addTask _ _ _ _ _ r (Option.some.inj (ifp q5 (ifn q3 (ifn q1 h)))))) (fun q1 q3 q5 q7 => (rt_addTask _ _ _ _ _ r (Option.some.inj (ifp q7 (ifn q5 (ifn q3 (ifn q1 h))))))) (fun q1 q3 q5 q7 q9 => (rt_addTask _ _ _ _ _ r (Option.some.inj (ifp q9 (ifn q7 (ifn q5 (ifn q3 (ifn q1 h)))))))) (fun q1 q3 q5 q7 q9 q11 q12 => (gd (ifp q12 (ifn q11 (ifn q9 (ifn q7 (ifn q5 (ifn q3 (ifn q1 h)))))))).1) (fun q1 q3 q5 q7 q9 q11 q12 q16 => (gd (ifn q16 (gd (ifp q12 (ifn q11 (ifn q9 (ifn q7 (ifn q5 (ifn q3 (ifn q1 h)))))))).2)).1.1) (fun q1 q3 q5 q7 q9 q11 q12 q16 => (gd (ifn q16 (gd (ifp q12 (ifn q11 (ifn q9 (ifn q7 (ifn q5 (ifn q3 (ifn q1 h)))))))).2)).1.2.1) (fun q1 q3 q5 q7 q9 q11 q12 q16 => (gd (ifn q16 (gd (ifp q12 (ifn q11 (ifn q9 (ifn q7 (ifn q5 (ifn q3 (ifn q1 h)))))))).2)).1.2.2) (fun q1 q3 q5 q7 q9 q11 q12 q16 => (rt_addTask _ _ _ _ _ r (Option.some.inj (gd (ifn q16 (gd (ifp q12 (ifn q11 (ifn q9 (ifn q7 (ifn q5 (ifn q3 (ifn q1 h)))))))).2)).2))) (fun q1 q3 q5 q7 q9 q11 q12 q16 => (rt_addTask _ _ _ _ _ r (Option.some.inj (ifp q16 (gd (ifp q12 (ifn q11 (ifn q9 (ifn q7 (ifn q5 (ifn q3 (ifn q1 h)))))))).2)))) (fun q1 q3 q5 q7 q9 q11 q12 => (rt_addTask _ _ _ _ _ r (Option.some.inj (ifn q12 (ifn q11 (ifn q9 (ifn q7 (ifn q5 (ifn q3 (ifn q1 h)))))))))) (fun q1 q3 q5 q7 q9 q11 => (rt_addTask _ _ _ _ _ r (Option.some.inj (ifp q11 (ifn q9 (ifn q7 (ifn q5 (ifn q3 (ifn q1 h)))))))))
set_option maxRecDepth 65536 in
set_option maxHeartbeats 4000000 in
theorem wp_dividesHyper {l : Launch} {Z : State} {a0 : Array Value} (H : OK Z a0) (F : Nat → Int32) (G : Nat → Int64) (A : Nat → Int32 → Int32) (B : Nat → Int32 → Int64) (p1 : Int32) {Q : Option Value → WO → Prop} (s4 : 0 < (F 2) → ¬ p1 < (1 : Int32) → ¬ (F 3) < p1 → ¬ p1 = (0 : Int32)) (h10 : Q (some (.int (nar .boolean (if 0 < (F 2) then (if p1 < (1 : Int32) then (0 : Int32) else (if (F 3) < p1 then (0 : Int32) else (if ((F 3) % p1) = 0 then (1 : Int32) else (0 : Int32)))) else (0 : Int32))))) (7, F, G, A, B)) :
    Wk l Z (MoC Z cdC) md_dividesHyper 0 [.val (.ref 0), .val (.int p1)] [] (7, F, G, A, B) 0 0 Q := by
  refine Wk.aloadN o_dividesHyper_0 rfl ?_
  refine Wk.getI (mI_count) (wf_count H) o_dividesHyper_1 (x := (F 2)) rfl ?_
  have J9 : Wk l Z (MoC Z cdC) md_dividesHyper 34 [.val (.ref 0), .val (.int p1)] [.int (if 0 < (F 2) then (if p1 < (1 : Int32) then (0 : Int32) else (if (F 3) < p1 then (0 : Int32) else (if ((F 3) % p1) = 0 then (1 : Int32) else (0 : Int32)))) else (0 : Int32))] (7, F, G, A, B) 0 0 Q := by
    exact Wk.zreturn mrC rfl o_dividesHyper_34 rfl (by decide) (by decide) (y := (nar .boolean (if 0 < (F 2) then (if p1 < (1 : Int32) then (0 : Int32) else (if (F 3) < p1 then (0 : Int32) else (if ((F 3) % p1) = 0 then (1 : Int32) else (0 : Int32)))) else (0 : Int32)))) rfl h10
  refine Wk.if_le o_dividesHyper_4 (fun q1 => ?_) (fun q1 => ?_)
  · refine Wk.iconst o_dividesHyper_33 (z := (0 : Int32)) (by decide) ?_
    first | (rw [show ((if 0 < (F 2) then (if p1 < (1 : Int32) then (0 : Int32) else (if (F 3) < p1 then (0 : Int32) else (if ((F 3) % p1) = 0 then (1 : Int32) else (0 : Int32)))) else (0 : Int32)) : Int32) = (0 : Int32) from if_neg q1] at J9; exact J9) | exact J9 | (simp only [if_neg q1] at J9 ⊢; exact J9)
  · refine Wk.iloadN o_dividesHyper_7 rfl ?_
    refine Wk.iconst o_dividesHyper_8 (z := (1 : Int32)) (by decide) ?_
    refine Wk.icmp_lt o_dividesHyper_9 (fun q2 => ?_) (fun q2 => ?_)
    · refine Wk.iconst o_dividesHyper_33 (z := (0 : Int32)) (by decide) ?_
      first | (rw [show ((if 0 < (F 2) then (if p1 < (1 : Int32) then (0 : Int32) else (if (F 3) < p1 then (0 : Int32) else (if ((F 3) % p1) = 0 then (1 : Int32) else (0 : Int32)))) else (0 : Int32)) : Int32) = (0 : Int32) from Eq.trans (if_pos q1) <| if_pos q2] at J9; exact J9) | exact J9 | (simp only [if_pos q1, if_pos q2] at J9 ⊢; exact J9)
    · refine Wk.iloadN o_dividesHyper_12 rfl ?_
      refine Wk.aloadN o_dividesHyper_13 rfl ?_
      refine Wk.getI (mI_hyper) (wf_hyper H) o_dividesHyper_14 (x := (F 3)) rfl ?_
      refine Wk.icmp_gt o_dividesHyper_17 (fun q3 => ?_) (fun q3 => ?_)
      · refine Wk.iconst o_dividesHyper_33 (z := (0 : Int32)) (by decide) ?_
        first | (rw [show ((if 0 < (F 2) then (if p1 < (1 : Int32) then (0 : Int32) else (if (F 3) < p1 then (0 : Int32) else (if ((F 3) % p1) = 0 then (1 : Int32) else (0 : Int32)))) else (0 : Int32)) : Int32) = (0 : Int32) from Eq.trans (if_pos q1) <| Eq.trans (if_neg q2) <| if_pos q3] at J9; exact J9) | exact J9 | (simp only [if_pos q1, if_neg q2, if_pos q3] at J9 ⊢; exact J9)
      · refine Wk.aloadN o_dividesHyper_20 rfl ?_
        refine Wk.getI (mI_hyper) (wf_hyper H) o_dividesHyper_21 (x := (F 3)) rfl ?_
        refine Wk.iloadN o_dividesHyper_24 rfl ?_
        refine Wk.irem o_dividesHyper_25 (s4 q1 q2 q3) ?_
        refine Wk.if_ne o_dividesHyper_26 (fun q5 => ?_) (fun q5 => ?_)
        · refine Wk.iconst o_dividesHyper_33 (z := (0 : Int32)) (by decide) ?_
          first | (rw [show ((if 0 < (F 2) then (if p1 < (1 : Int32) then (0 : Int32) else (if (F 3) < p1 then (0 : Int32) else (if ((F 3) % p1) = 0 then (1 : Int32) else (0 : Int32)))) else (0 : Int32)) : Int32) = (0 : Int32) from Eq.trans (if_pos q1) <| Eq.trans (if_neg q2) <| Eq.trans (if_neg q3) <| if_neg q5] at J9; exact J9) | exact J9 | (simp only [if_pos q1, if_neg q2, if_neg q3, if_neg q5] at J9 ⊢; exact J9)
        · refine Wk.iconst o_dividesHyper_29 (z := (1 : Int32)) (by decide) ?_
          refine Wk.goto o_dividesHyper_30 ?_
          first | (rw [show ((if 0 < (F 2) then (if p1 < (1 : Int32) then (0 : Int32) else (if (F 3) < p1 then (0 : Int32) else (if ((F 3) % p1) = 0 then (1 : Int32) else (0 : Int32)))) else (0 : Int32)) : Int32) = (1 : Int32) from Eq.trans (if_pos q1) <| Eq.trans (if_neg q2) <| Eq.trans (if_neg q3) <| if_pos q5] at J9; exact J9) | exact J9 | (simp only [if_pos q1, if_neg q2, if_neg q3, if_pos q5] at J9 ⊢; exact J9)

theorem rt_dividesHyper (F : Nat → Int32) (G : Nat → Int64) (A : Nat → Int32 → Int32) (B : Nat → Int32 → Int64) (v0 : Int32) (r : Int32) (e : v0 = r) : some (Value.int v0) = some (.int r) ∧ (7, F, G, A, B) = (7, F, G, A, B) := by subst e; exact ⟨rfl, rfl⟩
def en_dividesHyper (F : Nat → Int32) (p1 : Int32) : Option (Int32) := (if (0 < (F 2) → ¬ p1 < (1 : Int32) → ¬ (F 3) < p1 → ¬ p1 = (0 : Int32)) then some ((nar .boolean (if 0 < (F 2) then (if p1 < (1 : Int32) then (0 : Int32) else (if (F 3) < p1 then (0 : Int32) else (if ((F 3) % p1) = 0 then (1 : Int32) else (0 : Int32)))) else (0 : Int32)))) else none)
theorem een_dividesHyper (F : Nat → Int32) (p1 : Int32) : en_dividesHyper F p1 = (if (0 < (F 2) → ¬ p1 < (1 : Int32) → ¬ (F 3) < p1 → ¬ p1 = (0 : Int32)) then some ((nar .boolean (if 0 < (F 2) then (if p1 < (1 : Int32) then (0 : Int32) else (if (F 3) < p1 then (0 : Int32) else (if ((F 3) % p1) = 0 then (1 : Int32) else (0 : Int32)))) else (0 : Int32)))) else none) := Eq.trans rfl rfl
def R_dividesHyper (F : Nat → Int32) (p1 : Int32) : Int32 := (en_dividesHyper F p1).getD (0)
theorem eR_dividesHyper (F : Nat → Int32) (p1 : Int32) : R_dividesHyper F p1 = (en_dividesHyper F p1).getD (0) := Eq.trans rfl rfl
set_option maxRecDepth 65536 in
set_option maxHeartbeats 4000000 in
theorem run_dividesHyper {l : Launch} {Z : State} {a0 : Array Value} (H : OK Z a0) (F : Nat → Int32) (G : Nat → Int64) (A : Nat → Int32 → Int32) (B : Nat → Int32 → Int64) (p1 : Int32) (e1 : (en_dividesHyper F p1).isSome = true) :
    Wk l Z (MoC Z cdC) md_dividesHyper 0 [.val (.ref 0), .val (.int p1)] [] (7, F, G, A, B) 0 0 (fun v w' => v = some (.int (R_dividesHyper F p1)) ∧ w' = (7, F, G, A, B)) := by
  obtain ⟨r, h⟩ := Option.isSome_iff_exists.mp e1
  have e : R_dividesHyper F p1 = r := (eR_dividesHyper F p1).trans (getD_some h)
  rw [e]
  rw [een_dividesHyper] at h
  exact wp_dividesHyper H F G A B p1 (fun q1 q2 q3 => ((gd h).1) q1 q2 q3) ((rt_dividesHyper _ _ _ _ _ r (Option.some.inj (gd h).2)))
set_option maxRecDepth 65536 in
set_option maxHeartbeats 4000000 in
theorem wp_deadlinesOk {l : Launch} {Z : State} {a0 : Array Value} (H : OK Z a0) (F : Nat → Int32) (G : Nat → Int64) (A : Nat → Int32 → Int32) (B : Nat → Int32 → Int64) (p1 : Int32) {Q : Option Value → WO → Prop} (h1 : Wk l Z (MoC Z cdC) md_deadlinesOk 2 [.val (.ref 0), .val (.int p1), .val (.int (0 : Int32)), .unset] [] (7, F, G, A, B) 0 0 Q) :
    Wk l Z (MoC Z cdC) md_deadlinesOk 0 [.val (.ref 0), .val (.int p1), .unset, .unset] [] (7, F, G, A, B) 0 0 Q := by
  refine Wk.iconst o_deadlinesOk_0 (z := (0 : Int32)) (by decide) ?_
  refine Wk.istoreN o_deadlinesOk_1 (Or.inl rfl) (L' := [.val (.ref 0), .val (.int p1), .val (.int (0 : Int32)), .unset]) rfl ?_
  exact h1

set_option maxRecDepth 65536 in
set_option maxHeartbeats 4000000 in
theorem wp_deadlinesOk_2 {l : Launch} {Z : State} {a0 : Array Value} (H : OK Z a0) (F : Nat → Int32) (G : Nat → Int64) (A : Nat → Int32 → Int32) (B : Nat → Int32 → Int64) (v1 : Int32) (v2 : Int32) {Q : Option Value → WO → Prop} (h2 : ¬ v2 < (F 2) → Q (some (.int (1 : Int32))) (7, F, G, A, B)) (s3 : v2 < (F 2) → ¬ v2 < 0) (s4 : v2 < (F 2) → v2 < (8 : Int32)) (s5 : v2 < (F 2) → (en_gcd  v1 ((A 0) v2)).isSome = true) (h7 : v2 < (F 2) → ¬ ((A 2) v2) < (((2 : Int32) * v1) - (R_gcd  v1 ((A 0) v2))) → Wk l Z (MoC Z cdC) md_deadlinesOk 2 [.val (.ref 0), .val (.int v1), .val (.int (v2 + (1 : Int32))), .unset] [] (7, F, G, A, B) 0 0 Q) (h8 : v2 < (F 2) → ((A 2) v2) < (((2 : Int32) * v1) - (R_gcd  v1 ((A 0) v2))) → Q (some (.int (0 : Int32))) (7, F, G, A, B)) :
    Wk l Z (MoC Z cdC) md_deadlinesOk 2 [.val (.ref 0), .val (.int v1), .val (.int v2), .unset] [] (7, F, G, A, B) 0 0 Q := by
  refine Wk.iloadN o_deadlinesOk_2 rfl ?_
  refine Wk.aloadN o_deadlinesOk_3 rfl ?_
  refine Wk.getI (mI_count) (wf_count H) o_deadlinesOk_4 (x := (F 2)) rfl ?_
  refine Wk.icmp_ge o_deadlinesOk_7 (fun q1 => ?_) (fun q1 => ?_)
  · refine Wk.iconst o_deadlinesOk_44 (z := (1 : Int32)) (by decide) ?_
    exact Wk.zreturn mrC rfl o_deadlinesOk_45 rfl (by decide) (by decide) (y := (1 : Int32)) (by decide) (h2 q1)
  · refine Wk.aloadN o_deadlinesOk_10 rfl ?_
    refine Wk.iloadN o_deadlinesOk_11 rfl ?_
    refine Wk.aloadN o_deadlinesOk_12 rfl ?_
    refine Wk.getA (mA_per) (by decide) (i' := 1) rfl (wf_per H) o_deadlinesOk_13 ?_
    refine Wk.iloadN o_deadlinesOk_16 rfl ?_
    refine Wk.iaload (mA_per) (by decide) (i' := 1) rfl (s3 q1) (s4 q1) o_deadlinesOk_17 (y := ((A 0) v2)) rfl ?_
    refine Wk.callF [.int v1, .int ((A 0) v2)] [] (H.w 60 rfl) (cv_gcd H) o_deadlinesOk_18 (run_gcd H F G A B v1 ((A 0) v2) (s5 q1)) (wt := 0) (cu' := 0) (su' := 0) (by decide) rfl rfl rfl rfl rfl rfl rfl ?_
    refine Wk.istoreN o_deadlinesOk_21 (Or.inl rfl) (L' := [.val (.ref 0), .val (.int v1), .val (.int v2), .val (.int (R_gcd  v1 ((A 0) v2)))]) rfl ?_
    refine Wk.iconst o_deadlinesOk_22 (z := (2 : Int32)) (by decide) ?_
    refine Wk.iloadN o_deadlinesOk_23 rfl ?_
    refine Wk.imul o_deadlinesOk_24 ?_
    refine Wk.iloadN o_deadlinesOk_25 rfl ?_
    refine Wk.isub o_deadlinesOk_26 ?_
    refine Wk.aloadN o_deadlinesOk_27 rfl ?_
    refine Wk.getA (mA_dl) (by decide) (i' := 3) rfl (wf_dl H) o_deadlinesOk_28 ?_
    refine Wk.iloadN o_deadlinesOk_31 rfl ?_
    refine Wk.iaload (mA_dl) (by decide) (i' := 3) rfl (s3 q1) (s4 q1) o_deadlinesOk_32 (y := ((A 2) v2)) rfl ?_
    refine Wk.icmp_le o_deadlinesOk_33 (fun q6 => ?_) (fun q6 => ?_)
    · refine Wk.iinc o_deadlinesOk_38 rfl (z := (v2 + (1 : Int32))) rfl (L' := [.val (.ref 0), .val (.int v1), .val (.int (v2 + (1 : Int32))), .val (.int (R_gcd  v1 ((A 0) v2)))]) rfl ?_
      refine Wk.goto o_deadlinesOk_41 ?_
      refine Wk.forget [false, false, false, true] (L' := [.val (.ref 0), .val (.int v1), .val (.int (v2 + (1 : Int32))), .unset]) rfl rfl ?_
      exact (h7 q1 q6)
    · refine Wk.iconst o_deadlinesOk_36 (z := (0 : Int32)) (by decide) ?_
      exact Wk.zreturn mrC rfl o_deadlinesOk_37 rfl (by decide) (by decide) (y := (0 : Int32)) (by decide) (h8 q1 q6)

theorem rt_deadlinesOk (F : Nat → Int32) (G : Nat → Int64) (A : Nat → Int32 → Int32) (B : Nat → Int32 → Int64) (v0 : Int32) (r : Int32) (e : v0 = r) : some (Value.int v0) = some (.int r) ∧ (7, F, G, A, B) = (7, F, G, A, B) := by subst e; exact ⟨rfl, rfl⟩
def lp_deadlinesOk : Nat → Nat → Int32 → Int32 → (Nat → Int32) → (Nat → Int32 → Int32) → Option (Int32)
  | 0, _, _, _, _, _ => none
  | n + 1, tag, v1, v2, F, A => if tag = 2 then (if v2 < (F 2) then (if (¬ v2 < 0) ∧ (v2 < (8 : Int32)) ∧ ((en_gcd  v1 ((A 0) v2)).isSome = true) then (if ((A 2) v2) < (((2 : Int32) * v1) - (R_gcd  v1 ((A 0) v2))) then some ((0 : Int32)) else lp_deadlinesOk n 2 v1 (v2 + (1 : Int32)) F A) else none) else some ((1 : Int32))) else none
theorem lp_deadlinesOk_z (tag : Nat) (v1 : Int32) (v2 : Int32) (F : Nat → Int32) (A : Nat → Int32 → Int32) : lp_deadlinesOk 0 tag v1 v2 F A = none := Eq.trans rfl rfl
theorem lp_deadlinesOk_2 (n : Nat) (v1 : Int32) (v2 : Int32) (F : Nat → Int32) (A : Nat → Int32 → Int32) : lp_deadlinesOk (n + 1) 2 v1 v2 F A = (if v2 < (F 2) then (if (¬ v2 < 0) ∧ (v2 < (8 : Int32)) ∧ ((en_gcd  v1 ((A 0) v2)).isSome = true) then (if ((A 2) v2) < (((2 : Int32) * v1) - (R_gcd  v1 ((A 0) v2))) then some ((0 : Int32)) else lp_deadlinesOk n 2 v1 (v2 + (1 : Int32)) F A) else none) else some ((1 : Int32))) := by
  rw [lp_deadlinesOk, if_pos rfl]
set_option maxRecDepth 65536 in
set_option maxHeartbeats 4000000 in
theorem lpw_deadlinesOk {l : Launch} {Z : State} {a0 : Array Value} (H : OK Z a0) (F : Nat → Int32) (G : Nat → Int64) (A : Nat → Int32 → Int32) (B : Nat → Int32 → Int64) : ∀ (n : Nat) (v1 : Int32) (v2 : Int32) (r : Int32), (lp_deadlinesOk n 2 v1 v2 F A = some r → Wk l Z (MoC Z cdC) md_deadlinesOk 2 [.val (.ref 0), .val (.int v1), .val (.int v2), .unset] [] (7, F, G, A, B) 0 0 (fun v w' => v = some (.int r) ∧ w' = (7, F, G, A, B))) := by
  intro n
  induction n with
  | zero =>
    intro v1 v2  r
    exact (fun h => by rw [lp_deadlinesOk_z] at h; cases h)
  | succ n ih =>
    intro v1 v2  r
    refine fun h => ?_
    · rw [lp_deadlinesOk_2] at h
      exact wp_deadlinesOk_2 H F G A B v1 v2 (fun q1 => (rt_deadlinesOk _ _ _ _ _ r (Option.some.inj (ifn q1 h)))) (fun q1 => (gd (ifp q1 h)).1.1) (fun q1 => (gd (ifp q1 h)).1.2.1) (fun q1 => (gd (ifp q1 h)).1.2.2) (fun q1 q6 => (ih _ _ _) (ifn q6 (gd (ifp q1 h)).2)) (fun q1 q6 => (rt_deadlinesOk _ _ _ _ _ r (Option.some.inj (ifp q6 (gd (ifp q1 h)).2))))
def en_deadlinesOk (F : Nat → Int32) (A : Nat → Int32 → Int32) (p1 : Int32) : Option (Int32) := lp_deadlinesOk 5000 2 p1 (0 : Int32) F A
theorem een_deadlinesOk (F : Nat → Int32) (A : Nat → Int32 → Int32) (p1 : Int32) : en_deadlinesOk F A p1 = lp_deadlinesOk 5000 2 p1 (0 : Int32) F A := Eq.trans rfl rfl
def R_deadlinesOk (F : Nat → Int32) (A : Nat → Int32 → Int32) (p1 : Int32) : Int32 := (en_deadlinesOk F A p1).getD (0)
theorem eR_deadlinesOk (F : Nat → Int32) (A : Nat → Int32 → Int32) (p1 : Int32) : R_deadlinesOk F A p1 = (en_deadlinesOk F A p1).getD (0) := Eq.trans rfl rfl
set_option maxRecDepth 65536 in
set_option maxHeartbeats 4000000 in
theorem run_deadlinesOk {l : Launch} {Z : State} {a0 : Array Value} (H : OK Z a0) (F : Nat → Int32) (G : Nat → Int64) (A : Nat → Int32 → Int32) (B : Nat → Int32 → Int64) (p1 : Int32) (e1 : (en_deadlinesOk F A p1).isSome = true) :
    Wk l Z (MoC Z cdC) md_deadlinesOk 0 [.val (.ref 0), .val (.int p1), .unset, .unset] [] (7, F, G, A, B) 0 0 (fun v w' => v = some (.int (R_deadlinesOk F A p1)) ∧ w' = (7, F, G, A, B)) := by
  obtain ⟨r, h⟩ := Option.isSome_iff_exists.mp e1
  have e : R_deadlinesOk F A p1 = r := (eR_deadlinesOk F A p1).trans (getD_some h)
  rw [e]
  rw [een_deadlinesOk] at h
  exact wp_deadlinesOk H F G A B p1 ((lpw_deadlinesOk H F G A B _ _ _ _) h)
set_option maxRecDepth 65536 in
set_option maxHeartbeats 4000000 in
theorem wp_initJobs {l : Launch} {Z : State} {a0 : Array Value} (H : OK Z a0) (F : Nat → Int32) (G : Nat → Int64) (A : Nat → Int32 → Int32) (B : Nat → Int32 → Int64) {Q : Option Value → WO → Prop} (h1 : Wk l Z (MoC Z cdC) md_initJobs 2 [.val (.ref 0), .val (.int (0 : Int32)), .unset, .unset] [] (7, F, G, A, B) 0 0 Q) :
    Wk l Z (MoC Z cdC) md_initJobs 0 [.val (.ref 0), .unset, .unset, .unset] [] (7, F, G, A, B) 0 0 Q := by
  refine Wk.iconst o_initJobs_0 (z := (0 : Int32)) (by decide) ?_
  refine Wk.istoreN o_initJobs_1 (Or.inl rfl) (L' := [.val (.ref 0), .val (.int (0 : Int32)), .unset, .unset]) rfl ?_
  exact h1

set_option maxRecDepth 65536 in
set_option maxHeartbeats 4000000 in
theorem wp_initJobs_2 {l : Launch} {Z : State} {a0 : Array Value} (H : OK Z a0) (F : Nat → Int32) (G : Nat → Int64) (A : Nat → Int32 → Int32) (B : Nat → Int32 → Int64) (v1 : Int32) {Q : Option Value → WO → Prop} (h2 : ¬ v1 < (F 2) → Q none (7, F, G, A, B)) (s3 : v1 < (F 2) → ¬ v1 < 0) (s4 : v1 < (F 2) → v1 < (8 : Int32)) (s5 : v1 < (F 2) → ¬ ((A 0) v1) = (0 : Int32)) (h6 : v1 < (F 2) → Wk l Z (MoC Z cdC) md_initJobs 24 [.val (.ref 0), .val (.int v1), .val (.int ((F 3) / ((A 0) v1))), .val (.int (0 : Int32))] [] (7, F, G, A, B) 0 0 Q) :
    Wk l Z (MoC Z cdC) md_initJobs 2 [.val (.ref 0), .val (.int v1), .unset, .unset] [] (7, F, G, A, B) 0 0 Q := by
  refine Wk.iloadN o_initJobs_2 rfl ?_
  refine Wk.aloadN o_initJobs_3 rfl ?_
  refine Wk.getI (mI_count) (wf_count H) o_initJobs_4 (x := (F 2)) rfl ?_
  refine Wk.icmp_ge o_initJobs_7 (fun q1 => ?_) (fun q1 => ?_)
  · exact Wk.ret mrC rfl o_initJobs_66 rfl (by decide) (by decide) (h2 q1)
  · refine Wk.aloadN o_initJobs_10 rfl ?_
    refine Wk.getI (mI_hyper) (wf_hyper H) o_initJobs_11 (x := (F 3)) rfl ?_
    refine Wk.aloadN o_initJobs_14 rfl ?_
    refine Wk.getA (mA_per) (by decide) (i' := 1) rfl (wf_per H) o_initJobs_15 ?_
    refine Wk.iloadN o_initJobs_18 rfl ?_
    refine Wk.iaload (mA_per) (by decide) (i' := 1) rfl (s3 q1) (s4 q1) o_initJobs_19 (y := ((A 0) v1)) rfl ?_
    refine Wk.idiv o_initJobs_20 (s5 q1) ?_
    refine Wk.istoreN o_initJobs_21 (Or.inl rfl) (L' := [.val (.ref 0), .val (.int v1), .val (.int ((F 3) / ((A 0) v1))), .unset]) rfl ?_
    refine Wk.iconst o_initJobs_22 (z := (0 : Int32)) (by decide) ?_
    refine Wk.istoreN o_initJobs_23 (Or.inl rfl) (L' := [.val (.ref 0), .val (.int v1), .val (.int ((F 3) / ((A 0) v1))), .val (.int (0 : Int32))]) rfl ?_
    exact (h6 q1)

set_option maxRecDepth 65536 in
set_option maxHeartbeats 4000000 in
theorem wp_initJobs_24 {l : Launch} {Z : State} {a0 : Array Value} (H : OK Z a0) (F : Nat → Int32) (G : Nat → Int64) (A : Nat → Int32 → Int32) (B : Nat → Int32 → Int64) (v1 : Int32) (v2 : Int32) (v3 : Int32) {Q : Option Value → WO → Prop} (h2 : ¬ v3 < v2 → Wk l Z (MoC Z cdC) md_initJobs 2 [.val (.ref 0), .val (.int (v1 + (1 : Int32))), .unset, .unset] [] (7, F, G, A, B) 0 0 Q) (h4 : v3 < v2 → ¬ v3 < (128 : Int32) → Wk l Z (MoC Z cdC) md_initJobs 2 [.val (.ref 0), .val (.int (v1 + (1 : Int32))), .unset, .unset] [] (7, F, G, A, B) 0 0 Q) (s5 : v3 < v2 → v3 < (128 : Int32) → ¬ v1 < 0) (s6 : v3 < v2 → v3 < (128 : Int32) → v1 < (8 : Int32)) (s7 : v3 < v2 → v3 < (128 : Int32) → ¬ ((v1 * (128 : Int32)) + v3) < 0) (s8 : v3 < v2 → v3 < (128 : Int32) → ((v1 * (128 : Int32)) + v3) < (1024 : Int32)) (h9 : v3 < v2 → v3 < (128 : Int32) → Wk l Z (MoC Z cdC) md_initJobs 24 [.val (.ref 0), .val (.int v1), .val (.int v2), .val (.int (v3 + (1 : Int32)))] [] (7, F, G, (ups A 6 (ups (A 6) ((v1 * (128 : Int32)) + v3) ((A 1) v1))), B) 0 0 Q) :
    Wk l Z (MoC Z cdC) md_initJobs 24 [.val (.ref 0), .val (.int v1), .val (.int v2), .val (.int v3)] [] (7, F, G, A, B) 0 0 Q := by
  refine Wk.iloadN o_initJobs_24 rfl ?_
  refine Wk.iloadN o_initJobs_25 rfl ?_
  refine Wk.icmp_ge o_initJobs_26 (fun q1 => ?_) (fun q1 => ?_)
  · refine Wk.iinc o_initJobs_60 rfl (z := (v1 + (1 : Int32))) rfl (L' := [.val (.ref 0), .val (.int (v1 + (1 : Int32))), .val (.int v2), .val (.int v3)]) rfl ?_
    refine Wk.goto o_initJobs_63 ?_
    refine Wk.forget [false, false, true, true] (L' := [.val (.ref 0), .val (.int (v1 + (1 : Int32))), .unset, .unset]) rfl rfl ?_
    exact (h2 q1)
  · refine Wk.iloadN o_initJobs_29 rfl ?_
    refine Wk.sipush o_initJobs_30 (z := (128 : Int32)) (by decide) ?_
    refine Wk.icmp_ge o_initJobs_33 (fun q3 => ?_) (fun q3 => ?_)
    · refine Wk.iinc o_initJobs_60 rfl (z := (v1 + (1 : Int32))) rfl (L' := [.val (.ref 0), .val (.int (v1 + (1 : Int32))), .val (.int v2), .val (.int v3)]) rfl ?_
      refine Wk.goto o_initJobs_63 ?_
      refine Wk.forget [false, false, true, true] (L' := [.val (.ref 0), .val (.int (v1 + (1 : Int32))), .unset, .unset]) rfl rfl ?_
      exact (h4 q1 q3)
    · refine Wk.aloadN o_initJobs_36 rfl ?_
      refine Wk.getA (mA_rem) (by decide) (i' := 7) rfl (wf_rem H) o_initJobs_37 ?_
      refine Wk.iloadN o_initJobs_40 rfl ?_
      refine Wk.sipush o_initJobs_41 (z := (128 : Int32)) (by decide) ?_
      refine Wk.imul o_initJobs_44 ?_
      refine Wk.iloadN o_initJobs_45 rfl ?_
      refine Wk.iadd o_initJobs_46 ?_
      refine Wk.aloadN o_initJobs_47 rfl ?_
      refine Wk.getA (mA_exe) (by decide) (i' := 2) rfl (wf_exe H) o_initJobs_48 ?_
      refine Wk.iloadN o_initJobs_51 rfl ?_
      refine Wk.iaload (mA_exe) (by decide) (i' := 2) rfl (s5 q1 q3) (s6 q1 q3) o_initJobs_52 (y := ((A 1) v1)) rfl ?_
      refine Wk.iastore (coC H) (f := (A 6)) (mA_rem) rfl (by decide) (i' := 7) rfl (s7 q1 q3) (s8 q1 q3) o_initJobs_53 ?_
      refine Wk.iinc o_initJobs_54 rfl (z := (v3 + (1 : Int32))) rfl (L' := [.val (.ref 0), .val (.int v1), .val (.int v2), .val (.int (v3 + (1 : Int32)))]) rfl ?_
      refine Wk.goto o_initJobs_57 ?_
      exact (h9 q1 q3)

theorem rt_initJobs (F : Nat → Int32) (G : Nat → Int64) (B : Nat → Int32 → Int64) (v0 : Int32) (xA : Nat → Int32 → Int32) (r : Int32 × (Nat → Int32 → Int32)) (e : (v0, xA) = r) : (none : Option Value) = none ∧ (7, F, G, xA, B) = (7, F, G, r.2, B) := by subst e; exact ⟨rfl, rfl⟩
def lp_initJobs : Nat → Nat → Int32 → Int32 → Int32 → (Nat → Int32) → (Nat → Int32 → Int32) → Option (Int32 × (Nat → Int32 → Int32))
  | 0, _, _, _, _, _, _ => none
  | n + 1, tag, v1, v2, v3, F, A => if tag = 2 then (if v1 < (F 2) then (if (¬ v1 < 0) ∧ (v1 < (8 : Int32)) ∧ (¬ ((A 0) v1) = (0 : Int32)) then lp_initJobs n 24 v1 ((F 3) / ((A 0) v1)) (0 : Int32) F A else none) else some ((0 : Int32), A)) else if tag = 24 then (if v3 < v2 then (if v3 < (128 : Int32) then (if (¬ v1 < 0) ∧ (v1 < (8 : Int32)) ∧ (¬ ((v1 * (128 : Int32)) + v3) < 0) ∧ (((v1 * (128 : Int32)) + v3) < (1024 : Int32)) then lp_initJobs n 24 v1 v2 (v3 + (1 : Int32)) F (ups A 6 (ups (A 6) ((v1 * (128 : Int32)) + v3) ((A 1) v1))) else none) else lp_initJobs n 2 (v1 + (1 : Int32)) 0 0 F A) else lp_initJobs n 2 (v1 + (1 : Int32)) 0 0 F A) else none
theorem lp_initJobs_z (tag : Nat) (v1 : Int32) (v2 : Int32) (v3 : Int32) (F : Nat → Int32) (A : Nat → Int32 → Int32) : lp_initJobs 0 tag v1 v2 v3 F A = none := Eq.trans rfl rfl
theorem lp_initJobs_2 (n : Nat) (v1 : Int32) (v2 : Int32) (v3 : Int32) (F : Nat → Int32) (A : Nat → Int32 → Int32) : lp_initJobs (n + 1) 2 v1 v2 v3 F A = (if v1 < (F 2) then (if (¬ v1 < 0) ∧ (v1 < (8 : Int32)) ∧ (¬ ((A 0) v1) = (0 : Int32)) then lp_initJobs n 24 v1 ((F 3) / ((A 0) v1)) (0 : Int32) F A else none) else some ((0 : Int32), A)) := by
  rw [lp_initJobs, if_pos rfl]
theorem lp_initJobs_24 (n : Nat) (v1 : Int32) (v2 : Int32) (v3 : Int32) (F : Nat → Int32) (A : Nat → Int32 → Int32) : lp_initJobs (n + 1) 24 v1 v2 v3 F A = (if v3 < v2 then (if v3 < (128 : Int32) then (if (¬ v1 < 0) ∧ (v1 < (8 : Int32)) ∧ (¬ ((v1 * (128 : Int32)) + v3) < 0) ∧ (((v1 * (128 : Int32)) + v3) < (1024 : Int32)) then lp_initJobs n 24 v1 v2 (v3 + (1 : Int32)) F (ups A 6 (ups (A 6) ((v1 * (128 : Int32)) + v3) ((A 1) v1))) else none) else lp_initJobs n 2 (v1 + (1 : Int32)) 0 0 F A) else lp_initJobs n 2 (v1 + (1 : Int32)) 0 0 F A) := by
  rw [lp_initJobs, if_neg (by decide), if_pos rfl]
set_option maxRecDepth 65536 in
set_option maxHeartbeats 4000000 in
theorem lpw_initJobs {l : Launch} {Z : State} {a0 : Array Value} (H : OK Z a0) (F : Nat → Int32) (G : Nat → Int64) (B : Nat → Int32 → Int64) : ∀ (n : Nat) (v1 : Int32) (v2 : Int32) (v3 : Int32) (A : Nat → Int32 → Int32) (r : Int32 × (Nat → Int32 → Int32)), (lp_initJobs n 2 v1 v2 v3 F A = some r → Wk l Z (MoC Z cdC) md_initJobs 2 [.val (.ref 0), .val (.int v1), .unset, .unset] [] (7, F, G, A, B) 0 0 (fun v w' => v = none ∧ w' = (7, F, G, r.2, B))) ∧ (lp_initJobs n 24 v1 v2 v3 F A = some r → Wk l Z (MoC Z cdC) md_initJobs 24 [.val (.ref 0), .val (.int v1), .val (.int v2), .val (.int v3)] [] (7, F, G, A, B) 0 0 (fun v w' => v = none ∧ w' = (7, F, G, r.2, B))) := by
  intro n
  induction n with
  | zero =>
    intro v1 v2 v3 A r
    exact ⟨(fun h => by rw [lp_initJobs_z] at h; cases h), (fun h => by rw [lp_initJobs_z] at h; cases h)⟩
  | succ n ih =>
    intro v1 v2 v3 A r
    refine ⟨fun h => ?_, fun h => ?_⟩
    · rw [lp_initJobs_2] at h
      exact wp_initJobs_2 H F G A B v1 (fun q1 => (rt_initJobs _ _ _ _ _ r (Option.some.inj (ifn q1 h)))) (fun q1 => (gd (ifp q1 h)).1.1) (fun q1 => (gd (ifp q1 h)).1.2.1) (fun q1 => (gd (ifp q1 h)).1.2.2) (fun q1 => (ih _ _ _ _ _).2 (gd (ifp q1 h)).2)
    · rw [lp_initJobs_24] at h
      exact wp_initJobs_24 H F G A B v1 v2 v3 (fun q1 => (ih _ _ _ _ _).1 (ifn q1 h)) (fun q1 q3 => (ih _ _ _ _ _).1 (ifn q3 (ifp q1 h))) (fun q1 q3 => (gd (ifp q3 (ifp q1 h))).1.1) (fun q1 q3 => (gd (ifp q3 (ifp q1 h))).1.2.1) (fun q1 q3 => (gd (ifp q3 (ifp q1 h))).1.2.2.1) (fun q1 q3 => (gd (ifp q3 (ifp q1 h))).1.2.2.2) (fun q1 q3 => (ih _ _ _ _ _).2 (gd (ifp q3 (ifp q1 h))).2)
def en_initJobs (F : Nat → Int32) (A : Nat → Int32 → Int32) : Option (Int32 × (Nat → Int32 → Int32)) := lp_initJobs 5000 2 (0 : Int32) 0 0 F A
theorem een_initJobs (F : Nat → Int32) (A : Nat → Int32 → Int32) : en_initJobs F A  = lp_initJobs 5000 2 (0 : Int32) 0 0 F A := Eq.trans rfl rfl
def R_initJobs (F : Nat → Int32) (A : Nat → Int32 → Int32) : Int32 × (Nat → Int32 → Int32) := (en_initJobs F A ).getD (0, (fun _ _ => 0))
theorem eR_initJobs (F : Nat → Int32) (A : Nat → Int32 → Int32) : R_initJobs F A  = (en_initJobs F A ).getD (0, (fun _ _ => 0)) := Eq.trans rfl rfl
set_option maxRecDepth 65536 in
set_option maxHeartbeats 4000000 in
theorem run_initJobs {l : Launch} {Z : State} {a0 : Array Value} (H : OK Z a0) (F : Nat → Int32) (G : Nat → Int64) (A : Nat → Int32 → Int32) (B : Nat → Int32 → Int64) (e1 : (en_initJobs F A ).isSome = true) :
    Wk l Z (MoC Z cdC) md_initJobs 0 [.val (.ref 0), .unset, .unset, .unset] [] (7, F, G, A, B) 0 0 (fun v w' => v = none ∧ w' = (7, F, G, (R_initJobs F A ).2, B)) := by
  obtain ⟨r, h⟩ := Option.isSome_iff_exists.mp e1
  have e : R_initJobs F A  = r := (eR_initJobs F A ).trans (getD_some h)
  rw [e]
  rw [een_initJobs] at h
  exact wp_initJobs H F G A B  ((lpw_initJobs H F G B _ _ _ _ _ _).1 h)
set_option maxRecDepth 65536 in
set_option maxHeartbeats 4000000 in
theorem wp_pickJob {l : Launch} {Z : State} {a0 : Array Value} (H : OK Z a0) (F : Nat → Int32) (G : Nat → Int64) (A : Nat → Int32 → Int32) (B : Nat → Int32 → Int64) (p1 : Int32) (p2 : Int32) {Q : Option Value → WO → Prop} (h1 : Wk l Z (MoC Z cdC) md_pickJob 8 [.val (.ref 0), .val (.int p1), .val (.int p2), .val (.int (-1 : Int32)), .val (.int (0 : Int32)), .val (.int (0 : Int32)), .unset, .unset, .unset] [] (7, F, G, A, B) 0 0 Q) :
    Wk l Z (MoC Z cdC) md_pickJob 0 [.val (.ref 0), .val (.int p1), .val (.int p2), .unset, .unset, .unset, .unset, .unset, .unset] [] (7, F, G, A, B) 0 0 Q := by
  refine Wk.iconst o_pickJob_0 (z := (-1 : Int32)) (by decide) ?_
  refine Wk.istoreN o_pickJob_1 (Or.inl rfl) (L' := [.val (.ref 0), .val (.int p1), .val (.int p2), .val (.int (-1 : Int32)), .unset, .unset, .unset, .unset, .unset]) rfl ?_
  refine Wk.iconst o_pickJob_2 (z := (0 : Int32)) (by decide) ?_
  refine Wk.istore o_pickJob_3 (Or.inl rfl) (L' := [.val (.ref 0), .val (.int p1), .val (.int p2), .val (.int (-1 : Int32)), .val (.int (0 : Int32)), .unset, .unset, .unset, .unset]) rfl ?_
  refine Wk.iconst o_pickJob_5 (z := (0 : Int32)) (by decide) ?_
  refine Wk.istore o_pickJob_6 (Or.inl rfl) (L' := [.val (.ref 0), .val (.int p1), .val (.int p2), .val (.int (-1 : Int32)), .val (.int (0 : Int32)), .val (.int (0 : Int32)), .unset, .unset, .unset]) rfl ?_
  exact h1

set_option maxRecDepth 65536 in
set_option maxHeartbeats 4000000 in
theorem wp_pickJob_8 {l : Launch} {Z : State} {a0 : Array Value} (H : OK Z a0) (F : Nat → Int32) (G : Nat → Int64) (A : Nat → Int32 → Int32) (B : Nat → Int32 → Int64) (v1 : Int32) (v2 : Int32) (v3 : Int32) (v4 : Int32) (v5 : Int32) {Q : Option Value → WO → Prop} (h2 : ¬ v5 < (F 2) → Q (some (.int v3)) (7, F, G, A, B)) (s3 : v5 < (F 2) → ¬ v5 < 0) (s4 : v5 < (F 2) → v5 < (8 : Int32)) (s5 : v5 < (F 2) → ¬ ((A 0) v5) = (0 : Int32)) (s8 : v5 < (F 2) → ¬ ((v1 * v2) / ((A 0) v5)) < 0 → ((v1 * v2) / ((A 0) v5)) < (128 : Int32) → ¬ v5 < 0) (s9 : v5 < (F 2) → ¬ ((v1 * v2) / ((A 0) v5)) < 0 → ((v1 * v2) / ((A 0) v5)) < (128 : Int32) → v5 < (8 : Int32)) (s11 : v5 < (F 2) → ¬ ((v1 * v2) / ((A 0) v5)) < 0 → ((v1 * v2) / ((A 0) v5)) < (128 : Int32) → ¬ ((((v1 * v2) / ((A 0) v5)) * ((A 0) v5)) + ((A 2) v5)) < ((v1 + (1 : Int32)) * v2) → ¬ ((v5 * (128 : Int32)) + ((v1 * v2) / ((A 0) v5))) < 0) (s12 : v5 < (F 2) → ¬ ((v1 * v2) / ((A 0) v5)) < 0 → ((v1 * v2) / ((A 0) v5)) < (128 : Int32) → ¬ ((((v1 * v2) / ((A 0) v5)) * ((A 0) v5)) + ((A 2) v5)) < ((v1 + (1 : Int32)) * v2) → ((v5 * (128 : Int32)) + ((v1 * v2) / ((A 0) v5))) < (1024 : Int32)) (h22 : v5 < (F 2) → Wk l Z (MoC Z cdC) md_pickJob 8 [.val (.ref 0), .val (.int v1), .val (.int v2), .val (.int (if ((v1 * v2) / ((A 0) v5)) < 0 then v3 else (if ((v1 * v2) / ((A 0) v5)) < (128 : Int32) then (if ((((v1 * v2) / ((A 0) v5)) * ((A 0) v5)) + ((A 2) v5)) < ((v1 + (1 : Int32)) * v2) then v3 else (if 0 < ((A 6) ((v5 * (128 : Int32)) + ((v1 * v2) / ((A 0) v5)))) then (if v3 < 0 then ((v5 * (128 : Int32)) + ((v1 * v2) / ((A 0) v5))) else (if ((((v1 * v2) / ((A 0) v5)) * ((A 0) v5)) + ((A 2) v5)) < v4 then ((v5 * (128 : Int32)) + ((v1 * v2) / ((A 0) v5))) else v3)) else v3)) else v3))), .val (.int (if ((v1 * v2) / ((A 0) v5)) < 0 then v4 else (if ((v1 * v2) / ((A 0) v5)) < (128 : Int32) then (if ((((v1 * v2) / ((A 0) v5)) * ((A 0) v5)) + ((A 2) v5)) < ((v1 + (1 : Int32)) * v2) then v4 else (if 0 < ((A 6) ((v5 * (128 : Int32)) + ((v1 * v2) / ((A 0) v5)))) then (if v3 < 0 then ((((v1 * v2) / ((A 0) v5)) * ((A 0) v5)) + ((A 2) v5)) else (if ((((v1 * v2) / ((A 0) v5)) * ((A 0) v5)) + ((A 2) v5)) < v4 then ((((v1 * v2) / ((A 0) v5)) * ((A 0) v5)) + ((A 2) v5)) else v4)) else v4)) else v4))), .val (.int (v5 + (1 : Int32))), .unset, .unset, .unset] [] (7, F, G, A, B) 0 0 Q) :
    Wk l Z (MoC Z cdC) md_pickJob 8 [.val (.ref 0), .val (.int v1), .val (.int v2), .val (.int v3), .val (.int v4), .val (.int v5), .unset, .unset, .unset] [] (7, F, G, A, B) 0 0 Q := by
  refine Wk.iload o_pickJob_8 rfl ?_
  refine Wk.aloadN o_pickJob_10 rfl ?_
  refine Wk.getI (mI_count) (wf_count H) o_pickJob_11 (x := (F 2)) rfl ?_
  refine Wk.icmp_ge o_pickJob_14 (fun q1 => ?_) (fun q1 => ?_)
  · refine Wk.iloadN o_pickJob_127 rfl ?_
    exact Wk.ireturn mrC rfl o_pickJob_128 rfl (by decide) (by decide) (h2 q1)
  · refine Wk.iloadN o_pickJob_17 rfl ?_
    refine Wk.iloadN o_pickJob_18 rfl ?_
    refine Wk.imul o_pickJob_19 ?_
    refine Wk.aloadN o_pickJob_20 rfl ?_
    refine Wk.getA (mA_per) (by decide) (i' := 1) rfl (wf_per H) o_pickJob_21 ?_
    refine Wk.iload o_pickJob_24 rfl ?_
    refine Wk.iaload (mA_per) (by decide) (i' := 1) rfl (s3 q1) (s4 q1) o_pickJob_26 (y := ((A 0) v5)) rfl ?_
    refine Wk.idiv o_pickJob_27 (s5 q1) ?_
    refine Wk.istore o_pickJob_28 (Or.inl rfl) (L' := [.val (.ref 0), .val (.int v1), .val (.int v2), .val (.int v3), .val (.int v4), .val (.int v5), .val (.int ((v1 * v2) / ((A 0) v5))), .unset, .unset]) rfl ?_
    refine Wk.iload o_pickJob_30 rfl ?_
    have J21 : Wk l Z (MoC Z cdC) md_pickJob 121 [.val (.ref 0), .val (.int v1), .val (.int v2), .val (.int (if ((v1 * v2) / ((A 0) v5)) < 0 then v3 else (if ((v1 * v2) / ((A 0) v5)) < (128 : Int32) then (if ((((v1 * v2) / ((A 0) v5)) * ((A 0) v5)) + ((A 2) v5)) < ((v1 + (1 : Int32)) * v2) then v3 else (if 0 < ((A 6) ((v5 * (128 : Int32)) + ((v1 * v2) / ((A 0) v5)))) then (if v3 < 0 then ((v5 * (128 : Int32)) + ((v1 * v2) / ((A 0) v5))) else (if ((((v1 * v2) / ((A 0) v5)) * ((A 0) v5)) + ((A 2) v5)) < v4 then ((v5 * (128 : Int32)) + ((v1 * v2) / ((A 0) v5))) else v3)) else v3)) else v3))), .val (.int (if ((v1 * v2) / ((A 0) v5)) < 0 then v4 else (if ((v1 * v2) / ((A 0) v5)) < (128 : Int32) then (if ((((v1 * v2) / ((A 0) v5)) * ((A 0) v5)) + ((A 2) v5)) < ((v1 + (1 : Int32)) * v2) then v4 else (if 0 < ((A 6) ((v5 * (128 : Int32)) + ((v1 * v2) / ((A 0) v5)))) then (if v3 < 0 then ((((v1 * v2) / ((A 0) v5)) * ((A 0) v5)) + ((A 2) v5)) else (if ((((v1 * v2) / ((A 0) v5)) * ((A 0) v5)) + ((A 2) v5)) < v4 then ((((v1 * v2) / ((A 0) v5)) * ((A 0) v5)) + ((A 2) v5)) else v4)) else v4)) else v4))), .val (.int v5), .val (.int ((v1 * v2) / ((A 0) v5))), .unset, .unset] [] (7, F, G, A, B) 0 0 Q := by
      refine Wk.iinc o_pickJob_121 rfl (z := (v5 + (1 : Int32))) rfl (L' := [.val (.ref 0), .val (.int v1), .val (.int v2), .val (.int (if ((v1 * v2) / ((A 0) v5)) < 0 then v3 else (if ((v1 * v2) / ((A 0) v5)) < (128 : Int32) then (if ((((v1 * v2) / ((A 0) v5)) * ((A 0) v5)) + ((A 2) v5)) < ((v1 + (1 : Int32)) * v2) then v3 else (if 0 < ((A 6) ((v5 * (128 : Int32)) + ((v1 * v2) / ((A 0) v5)))) then (if v3 < 0 then ((v5 * (128 : Int32)) + ((v1 * v2) / ((A 0) v5))) else (if ((((v1 * v2) / ((A 0) v5)) * ((A 0) v5)) + ((A 2) v5)) < v4 then ((v5 * (128 : Int32)) + ((v1 * v2) / ((A 0) v5))) else v3)) else v3)) else v3))), .val (.int (if ((v1 * v2) / ((A 0) v5)) < 0 then v4 else (if ((v1 * v2) / ((A 0) v5)) < (128 : Int32) then (if ((((v1 * v2) / ((A 0) v5)) * ((A 0) v5)) + ((A 2) v5)) < ((v1 + (1 : Int32)) * v2) then v4 else (if 0 < ((A 6) ((v5 * (128 : Int32)) + ((v1 * v2) / ((A 0) v5)))) then (if v3 < 0 then ((((v1 * v2) / ((A 0) v5)) * ((A 0) v5)) + ((A 2) v5)) else (if ((((v1 * v2) / ((A 0) v5)) * ((A 0) v5)) + ((A 2) v5)) < v4 then ((((v1 * v2) / ((A 0) v5)) * ((A 0) v5)) + ((A 2) v5)) else v4)) else v4)) else v4))), .val (.int (v5 + (1 : Int32))), .val (.int ((v1 * v2) / ((A 0) v5))), .unset, .unset]) rfl ?_
      refine Wk.goto o_pickJob_124 ?_
      refine Wk.forget [false, false, false, false, false, false, true, false, false] (L' := [.val (.ref 0), .val (.int v1), .val (.int v2), .val (.int (if ((v1 * v2) / ((A 0) v5)) < 0 then v3 else (if ((v1 * v2) / ((A 0) v5)) < (128 : Int32) then (if ((((v1 * v2) / ((A 0) v5)) * ((A 0) v5)) + ((A 2) v5)) < ((v1 + (1 : Int32)) * v2) then v3 else (if 0 < ((A 6) ((v5 * (128 : Int32)) + ((v1 * v2) / ((A 0) v5)))) then (if v3 < 0 then ((v5 * (128 : Int32)) + ((v1 * v2) / ((A 0) v5))) else (if ((((v1 * v2) / ((A 0) v5)) * ((A 0) v5)) + ((A 2) v5)) < v4 then ((v5 * (128 : Int32)) + ((v1 * v2) / ((A 0) v5))) else v3)) else v3)) else v3))), .val (.int (if ((v1 * v2) / ((A 0) v5)) < 0 then v4 else (if ((v1 * v2) / ((A 0) v5)) < (128 : Int32) then (if ((((v1 * v2) / ((A 0) v5)) * ((A 0) v5)) + ((A 2) v5)) < ((v1 + (1 : Int32)) * v2) then v4 else (if 0 < ((A 6) ((v5 * (128 : Int32)) + ((v1 * v2) / ((A 0) v5)))) then (if v3 < 0 then ((((v1 * v2) / ((A 0) v5)) * ((A 0) v5)) + ((A 2) v5)) else (if ((((v1 * v2) / ((A 0) v5)) * ((A 0) v5)) + ((A 2) v5)) < v4 then ((((v1 * v2) / ((A 0) v5)) * ((A 0) v5)) + ((A 2) v5)) else v4)) else v4)) else v4))), .val (.int (v5 + (1 : Int32))), .unset, .unset, .unset]) rfl rfl ?_
      exact (h22 q1)
    refine Wk.if_lt o_pickJob_32 (fun q6 => ?_) (fun q6 => ?_)
    · first | (rw [show ((if ((v1 * v2) / ((A 0) v5)) < 0 then v3 else (if ((v1 * v2) / ((A 0) v5)) < (128 : Int32) then (if ((((v1 * v2) / ((A 0) v5)) * ((A 0) v5)) + ((A 2) v5)) < ((v1 + (1 : Int32)) * v2) then v3 else (if 0 < ((A 6) ((v5 * (128 : Int32)) + ((v1 * v2) / ((A 0) v5)))) then (if v3 < 0 then ((v5 * (128 : Int32)) + ((v1 * v2) / ((A 0) v5))) else (if ((((v1 * v2) / ((A 0) v5)) * ((A 0) v5)) + ((A 2) v5)) < v4 then ((v5 * (128 : Int32)) + ((v1 * v2) / ((A 0) v5))) else v3)) else v3)) else v3)) : Int32) = v3 from if_pos q6, show ((if ((v1 * v2) / ((A 0) v5)) < 0 then v4 else (if ((v1 * v2) / ((A 0) v5)) < (128 : Int32) then (if ((((v1 * v2) / ((A 0) v5)) * ((A 0) v5)) + ((A 2) v5)) < ((v1 + (1 : Int32)) * v2) then v4 else (if 0 < ((A 6) ((v5 * (128 : Int32)) + ((v1 * v2) / ((A 0) v5)))) then (if v3 < 0 then ((((v1 * v2) / ((A 0) v5)) * ((A 0) v5)) + ((A 2) v5)) else (if ((((v1 * v2) / ((A 0) v5)) * ((A 0) v5)) + ((A 2) v5)) < v4 then ((((v1 * v2) / ((A 0) v5)) * ((A 0) v5)) + ((A 2) v5)) else v4)) else v4)) else v4)) : Int32) = v4 from if_pos q6] at J21; exact J21) | exact J21 | (simp only [if_pos q6] at J21 ⊢; exact J21)
    · refine Wk.iload o_pickJob_35 rfl ?_
      refine Wk.sipush o_pickJob_37 (z := (128 : Int32)) (by decide) ?_
      refine Wk.icmp_lt o_pickJob_40 (fun q7 => ?_) (fun q7 => ?_)
      · refine Wk.iload o_pickJob_46 rfl ?_
        refine Wk.aloadN o_pickJob_48 rfl ?_
        refine Wk.getA (mA_per) (by decide) (i' := 1) rfl (wf_per H) o_pickJob_49 ?_
        refine Wk.iload o_pickJob_52 rfl ?_
        refine Wk.iaload (mA_per) (by decide) (i' := 1) rfl (s8 q1 q6 q7) (s9 q1 q6 q7) o_pickJob_54 (y := ((A 0) v5)) rfl ?_
        refine Wk.imul o_pickJob_55 ?_
        refine Wk.aloadN o_pickJob_56 rfl ?_
        refine Wk.getA (mA_dl) (by decide) (i' := 3) rfl (wf_dl H) o_pickJob_57 ?_
        refine Wk.iload o_pickJob_60 rfl ?_
        refine Wk.iaload (mA_dl) (by decide) (i' := 3) rfl (s8 q1 q6 q7) (s9 q1 q6 q7) o_pickJob_62 (y := ((A 2) v5)) rfl ?_
        refine Wk.iadd o_pickJob_63 ?_
        refine Wk.istore o_pickJob_64 (Or.inl rfl) (L' := [.val (.ref 0), .val (.int v1), .val (.int v2), .val (.int v3), .val (.int v4), .val (.int v5), .val (.int ((v1 * v2) / ((A 0) v5))), .val (.int ((((v1 * v2) / ((A 0) v5)) * ((A 0) v5)) + ((A 2) v5))), .unset]) rfl ?_
        refine Wk.iloadN o_pickJob_66 rfl ?_
        refine Wk.iconst o_pickJob_67 (z := (1 : Int32)) (by decide) ?_
        refine Wk.iadd o_pickJob_68 ?_
        refine Wk.iloadN o_pickJob_69 rfl ?_
        refine Wk.imul o_pickJob_70 ?_
        refine Wk.iload o_pickJob_71 rfl ?_
        refine Wk.icmp_le o_pickJob_73 (fun q10 => ?_) (fun q10 => ?_)
        · refine Wk.iload o_pickJob_79 rfl ?_
          refine Wk.sipush o_pickJob_81 (z := (128 : Int32)) (by decide) ?_
          refine Wk.imul o_pickJob_84 ?_
          refine Wk.iload o_pickJob_85 rfl ?_
          refine Wk.iadd o_pickJob_87 ?_
          refine Wk.istore o_pickJob_88 (Or.inl rfl) (L' := [.val (.ref 0), .val (.int v1), .val (.int v2), .val (.int v3), .val (.int v4), .val (.int v5), .val (.int ((v1 * v2) / ((A 0) v5))), .val (.int ((((v1 * v2) / ((A 0) v5)) * ((A 0) v5)) + ((A 2) v5))), .val (.int ((v5 * (128 : Int32)) + ((v1 * v2) / ((A 0) v5))))]) rfl ?_
          refine Wk.aloadN o_pickJob_90 rfl ?_
          refine Wk.getA (mA_rem) (by decide) (i' := 7) rfl (wf_rem H) o_pickJob_91 ?_
          refine Wk.iload o_pickJob_94 rfl ?_
          refine Wk.iaload (mA_rem) (by decide) (i' := 7) rfl (s11 q1 q6 q7 q10) (s12 q1 q6 q7 q10) o_pickJob_96 (y := ((A 6) ((v5 * (128 : Int32)) + ((v1 * v2) / ((A 0) v5))))) rfl ?_
          refine Wk.if_gt o_pickJob_97 (fun q13 => ?_) (fun q13 => ?_)
          · refine Wk.iloadN o_pickJob_103 rfl ?_
            refine Wk.if_lt o_pickJob_104 (fun q14 => ?_) (fun q14 => ?_)
            · refine Wk.iload o_pickJob_114 rfl ?_
              refine Wk.istoreN o_pickJob_116 (Or.inr ⟨_, rfl, rfl⟩) (L' := [.val (.ref 0), .val (.int v1), .val (.int v2), .val (.int ((v5 * (128 : Int32)) + ((v1 * v2) / ((A 0) v5)))), .val (.int v4), .val (.int v5), .val (.int ((v1 * v2) / ((A 0) v5))), .val (.int ((((v1 * v2) / ((A 0) v5)) * ((A 0) v5)) + ((A 2) v5))), .val (.int ((v5 * (128 : Int32)) + ((v1 * v2) / ((A 0) v5))))]) rfl ?_
              refine Wk.iload o_pickJob_117 rfl ?_
              refine Wk.istore o_pickJob_119 (Or.inr ⟨_, rfl, rfl⟩) (L' := [.val (.ref 0), .val (.int v1), .val (.int v2), .val (.int ((v5 * (128 : Int32)) + ((v1 * v2) / ((A 0) v5)))), .val (.int ((((v1 * v2) / ((A 0) v5)) * ((A 0) v5)) + ((A 2) v5))), .val (.int v5), .val (.int ((v1 * v2) / ((A 0) v5))), .val (.int ((((v1 * v2) / ((A 0) v5)) * ((A 0) v5)) + ((A 2) v5))), .val (.int ((v5 * (128 : Int32)) + ((v1 * v2) / ((A 0) v5))))]) rfl ?_
              refine Wk.forget [false, false, false, false, false, false, false, true, true] (L' := [.val (.ref 0), .val (.int v1), .val (.int v2), .val (.int ((v5 * (128 : Int32)) + ((v1 * v2) / ((A 0) v5)))), .val (.int ((((v1 * v2) / ((A 0) v5)) * ((A 0) v5)) + ((A 2) v5))), .val (.int v5), .val (.int ((v1 * v2) / ((A 0) v5))), .unset, .unset]) rfl rfl ?_
              first | (rw [show ((if ((v1 * v2) / ((A 0) v5)) < 0 then v3 else (if ((v1 * v2) / ((A 0) v5)) < (128 : Int32) then (if ((((v1 * v2) / ((A 0) v5)) * ((A 0) v5)) + ((A 2) v5)) < ((v1 + (1 : Int32)) * v2) then v3 else (if 0 < ((A 6) ((v5 * (128 : Int32)) + ((v1 * v2) / ((A 0) v5)))) then (if v3 < 0 then ((v5 * (128 : Int32)) + ((v1 * v2) / ((A 0) v5))) else (if ((((v1 * v2) / ((A 0) v5)) * ((A 0) v5)) + ((A 2) v5)) < v4 then ((v5 * (128 : Int32)) + ((v1 * v2) / ((A 0) v5))) else v3)) else v3)) else v3)) : Int32) = ((v5 * (128 : Int32)) + ((v1 * v2) / ((A 0) v5))) from Eq.trans (if_neg q6) <| Eq.trans (if_pos q7) <| Eq.trans (if_neg q10) <| Eq.trans (if_pos q13) <| if_pos q14, show ((if ((v1 * v2) / ((A 0) v5)) < 0 then v4 else (if ((v1 * v2) / ((A 0) v5)) < (128 : Int32) then (if ((((v1 * v2) / ((A 0) v5)) * ((A 0) v5)) + ((A 2) v5)) < ((v1 + (1 : Int32)) * v2) then v4 else (if 0 < ((A 6) ((v5 * (128 : Int32)) + ((v1 * v2) / ((A 0) v5)))) then (if v3 < 0 then ((((v1 * v2) / ((A 0) v5)) * ((A 0) v5)) + ((A 2) v5)) else (if ((((v1 * v2) / ((A 0) v5)) * ((A 0) v5)) + ((A 2) v5)) < v4 then ((((v1 * v2) / ((A 0) v5)) * ((A 0) v5)) + ((A 2) v5)) else v4)) else v4)) else v4)) : Int32) = ((((v1 * v2) / ((A 0) v5)) * ((A 0) v5)) + ((A 2) v5)) from Eq.trans (if_neg q6) <| Eq.trans (if_pos q7) <| Eq.trans (if_neg q10) <| Eq.trans (if_pos q13) <| if_pos q14] at J21; exact J21) | exact J21 | (simp only [if_neg q6, if_pos q7, if_neg q10, if_pos q13, if_pos q14] at J21 ⊢; exact J21)
            · refine Wk.iload o_pickJob_107 rfl ?_
              refine Wk.iload o_pickJob_109 rfl ?_
              refine Wk.icmp_ge o_pickJob_111 (fun q15 => ?_) (fun q15 => ?_)
              · refine Wk.forget [false, false, false, false, false, false, false, true, true] (L' := [.val (.ref 0), .val (.int v1), .val (.int v2), .val (.int v3), .val (.int v4), .val (.int v5), .val (.int ((v1 * v2) / ((A 0) v5))), .unset, .unset]) rfl rfl ?_
                first | (rw [show ((if ((v1 * v2) / ((A 0) v5)) < 0 then v3 else (if ((v1 * v2) / ((A 0) v5)) < (128 : Int32) then (if ((((v1 * v2) / ((A 0) v5)) * ((A 0) v5)) + ((A 2) v5)) < ((v1 + (1 : Int32)) * v2) then v3 else (if 0 < ((A 6) ((v5 * (128 : Int32)) + ((v1 * v2) / ((A 0) v5)))) then (if v3 < 0 then ((v5 * (128 : Int32)) + ((v1 * v2) / ((A 0) v5))) else (if ((((v1 * v2) / ((A 0) v5)) * ((A 0) v5)) + ((A 2) v5)) < v4 then ((v5 * (128 : Int32)) + ((v1 * v2) / ((A 0) v5))) else v3)) else v3)) else v3)) : Int32) = v3 from Eq.trans (if_neg q6) <| Eq.trans (if_pos q7) <| Eq.trans (if_neg q10) <| Eq.trans (if_pos q13) <| Eq.trans (if_neg q14) <| if_neg q15, show ((if ((v1 * v2) / ((A 0) v5)) < 0 then v4 else (if ((v1 * v2) / ((A 0) v5)) < (128 : Int32) then (if ((((v1 * v2) / ((A 0) v5)) * ((A 0) v5)) + ((A 2) v5)) < ((v1 + (1 : Int32)) * v2) then v4 else (if 0 < ((A 6) ((v5 * (128 : Int32)) + ((v1 * v2) / ((A 0) v5)))) then (if v3 < 0 then ((((v1 * v2) / ((A 0) v5)) * ((A 0) v5)) + ((A 2) v5)) else (if ((((v1 * v2) / ((A 0) v5)) * ((A 0) v5)) + ((A 2) v5)) < v4 then ((((v1 * v2) / ((A 0) v5)) * ((A 0) v5)) + ((A 2) v5)) else v4)) else v4)) else v4)) : Int32) = v4 from Eq.trans (if_neg q6) <| Eq.trans (if_pos q7) <| Eq.trans (if_neg q10) <| Eq.trans (if_pos q13) <| Eq.trans (if_neg q14) <| if_neg q15] at J21; exact J21) | exact J21 | (simp only [if_neg q6, if_pos q7, if_neg q10, if_pos q13, if_neg q14, if_neg q15] at J21 ⊢; exact J21)
              · refine Wk.iload o_pickJob_114 rfl ?_
                refine Wk.istoreN o_pickJob_116 (Or.inr ⟨_, rfl, rfl⟩) (L' := [.val (.ref 0), .val (.int v1), .val (.int v2), .val (.int ((v5 * (128 : Int32)) + ((v1 * v2) / ((A 0) v5)))), .val (.int v4), .val (.int v5), .val (.int ((v1 * v2) / ((A 0) v5))), .val (.int ((((v1 * v2) / ((A 0) v5)) * ((A 0) v5)) + ((A 2) v5))), .val (.int ((v5 * (128 : Int32)) + ((v1 * v2) / ((A 0) v5))))]) rfl ?_
                refine Wk.iload o_pickJob_117 rfl ?_
                refine Wk.istore o_pickJob_119 (Or.inr ⟨_, rfl, rfl⟩) (L' := [.val (.ref 0), .val (.int v1), .val (.int v2), .val (.int ((v5 * (128 : Int32)) + ((v1 * v2) / ((A 0) v5)))), .val (.int ((((v1 * v2) / ((A 0) v5)) * ((A 0) v5)) + ((A 2) v5))), .val (.int v5), .val (.int ((v1 * v2) / ((A 0) v5))), .val (.int ((((v1 * v2) / ((A 0) v5)) * ((A 0) v5)) + ((A 2) v5))), .val (.int ((v5 * (128 : Int32)) + ((v1 * v2) / ((A 0) v5))))]) rfl ?_
                refine Wk.forget [false, false, false, false, false, false, false, true, true] (L' := [.val (.ref 0), .val (.int v1), .val (.int v2), .val (.int ((v5 * (128 : Int32)) + ((v1 * v2) / ((A 0) v5)))), .val (.int ((((v1 * v2) / ((A 0) v5)) * ((A 0) v5)) + ((A 2) v5))), .val (.int v5), .val (.int ((v1 * v2) / ((A 0) v5))), .unset, .unset]) rfl rfl ?_
                first | (rw [show ((if ((v1 * v2) / ((A 0) v5)) < 0 then v3 else (if ((v1 * v2) / ((A 0) v5)) < (128 : Int32) then (if ((((v1 * v2) / ((A 0) v5)) * ((A 0) v5)) + ((A 2) v5)) < ((v1 + (1 : Int32)) * v2) then v3 else (if 0 < ((A 6) ((v5 * (128 : Int32)) + ((v1 * v2) / ((A 0) v5)))) then (if v3 < 0 then ((v5 * (128 : Int32)) + ((v1 * v2) / ((A 0) v5))) else (if ((((v1 * v2) / ((A 0) v5)) * ((A 0) v5)) + ((A 2) v5)) < v4 then ((v5 * (128 : Int32)) + ((v1 * v2) / ((A 0) v5))) else v3)) else v3)) else v3)) : Int32) = ((v5 * (128 : Int32)) + ((v1 * v2) / ((A 0) v5))) from Eq.trans (if_neg q6) <| Eq.trans (if_pos q7) <| Eq.trans (if_neg q10) <| Eq.trans (if_pos q13) <| Eq.trans (if_neg q14) <| if_pos q15, show ((if ((v1 * v2) / ((A 0) v5)) < 0 then v4 else (if ((v1 * v2) / ((A 0) v5)) < (128 : Int32) then (if ((((v1 * v2) / ((A 0) v5)) * ((A 0) v5)) + ((A 2) v5)) < ((v1 + (1 : Int32)) * v2) then v4 else (if 0 < ((A 6) ((v5 * (128 : Int32)) + ((v1 * v2) / ((A 0) v5)))) then (if v3 < 0 then ((((v1 * v2) / ((A 0) v5)) * ((A 0) v5)) + ((A 2) v5)) else (if ((((v1 * v2) / ((A 0) v5)) * ((A 0) v5)) + ((A 2) v5)) < v4 then ((((v1 * v2) / ((A 0) v5)) * ((A 0) v5)) + ((A 2) v5)) else v4)) else v4)) else v4)) : Int32) = ((((v1 * v2) / ((A 0) v5)) * ((A 0) v5)) + ((A 2) v5)) from Eq.trans (if_neg q6) <| Eq.trans (if_pos q7) <| Eq.trans (if_neg q10) <| Eq.trans (if_pos q13) <| Eq.trans (if_neg q14) <| if_pos q15] at J21; exact J21) | exact J21 | (simp only [if_neg q6, if_pos q7, if_neg q10, if_pos q13, if_neg q14, if_pos q15] at J21 ⊢; exact J21)
          · refine Wk.goto o_pickJob_100 ?_
            refine Wk.forget [false, false, false, false, false, false, false, true, true] (L' := [.val (.ref 0), .val (.int v1), .val (.int v2), .val (.int v3), .val (.int v4), .val (.int v5), .val (.int ((v1 * v2) / ((A 0) v5))), .unset, .unset]) rfl rfl ?_
            first | (rw [show ((if ((v1 * v2) / ((A 0) v5)) < 0 then v3 else (if ((v1 * v2) / ((A 0) v5)) < (128 : Int32) then (if ((((v1 * v2) / ((A 0) v5)) * ((A 0) v5)) + ((A 2) v5)) < ((v1 + (1 : Int32)) * v2) then v3 else (if 0 < ((A 6) ((v5 * (128 : Int32)) + ((v1 * v2) / ((A 0) v5)))) then (if v3 < 0 then ((v5 * (128 : Int32)) + ((v1 * v2) / ((A 0) v5))) else (if ((((v1 * v2) / ((A 0) v5)) * ((A 0) v5)) + ((A 2) v5)) < v4 then ((v5 * (128 : Int32)) + ((v1 * v2) / ((A 0) v5))) else v3)) else v3)) else v3)) : Int32) = v3 from Eq.trans (if_neg q6) <| Eq.trans (if_pos q7) <| Eq.trans (if_neg q10) <| if_neg q13, show ((if ((v1 * v2) / ((A 0) v5)) < 0 then v4 else (if ((v1 * v2) / ((A 0) v5)) < (128 : Int32) then (if ((((v1 * v2) / ((A 0) v5)) * ((A 0) v5)) + ((A 2) v5)) < ((v1 + (1 : Int32)) * v2) then v4 else (if 0 < ((A 6) ((v5 * (128 : Int32)) + ((v1 * v2) / ((A 0) v5)))) then (if v3 < 0 then ((((v1 * v2) / ((A 0) v5)) * ((A 0) v5)) + ((A 2) v5)) else (if ((((v1 * v2) / ((A 0) v5)) * ((A 0) v5)) + ((A 2) v5)) < v4 then ((((v1 * v2) / ((A 0) v5)) * ((A 0) v5)) + ((A 2) v5)) else v4)) else v4)) else v4)) : Int32) = v4 from Eq.trans (if_neg q6) <| Eq.trans (if_pos q7) <| Eq.trans (if_neg q10) <| if_neg q13] at J21; exact J21) | exact J21 | (simp only [if_neg q6, if_pos q7, if_neg q10, if_neg q13] at J21 ⊢; exact J21)
        · refine Wk.goto o_pickJob_76 ?_
          refine Wk.forget [false, false, false, false, false, false, false, true, false] (L' := [.val (.ref 0), .val (.int v1), .val (.int v2), .val (.int v3), .val (.int v4), .val (.int v5), .val (.int ((v1 * v2) / ((A 0) v5))), .unset, .unset]) rfl rfl ?_
          first | (rw [show ((if ((v1 * v2) / ((A 0) v5)) < 0 then v3 else (if ((v1 * v2) / ((A 0) v5)) < (128 : Int32) then (if ((((v1 * v2) / ((A 0) v5)) * ((A 0) v5)) + ((A 2) v5)) < ((v1 + (1 : Int32)) * v2) then v3 else (if 0 < ((A 6) ((v5 * (128 : Int32)) + ((v1 * v2) / ((A 0) v5)))) then (if v3 < 0 then ((v5 * (128 : Int32)) + ((v1 * v2) / ((A 0) v5))) else (if ((((v1 * v2) / ((A 0) v5)) * ((A 0) v5)) + ((A 2) v5)) < v4 then ((v5 * (128 : Int32)) + ((v1 * v2) / ((A 0) v5))) else v3)) else v3)) else v3)) : Int32) = v3 from Eq.trans (if_neg q6) <| Eq.trans (if_pos q7) <| if_pos q10, show ((if ((v1 * v2) / ((A 0) v5)) < 0 then v4 else (if ((v1 * v2) / ((A 0) v5)) < (128 : Int32) then (if ((((v1 * v2) / ((A 0) v5)) * ((A 0) v5)) + ((A 2) v5)) < ((v1 + (1 : Int32)) * v2) then v4 else (if 0 < ((A 6) ((v5 * (128 : Int32)) + ((v1 * v2) / ((A 0) v5)))) then (if v3 < 0 then ((((v1 * v2) / ((A 0) v5)) * ((A 0) v5)) + ((A 2) v5)) else (if ((((v1 * v2) / ((A 0) v5)) * ((A 0) v5)) + ((A 2) v5)) < v4 then ((((v1 * v2) / ((A 0) v5)) * ((A 0) v5)) + ((A 2) v5)) else v4)) else v4)) else v4)) : Int32) = v4 from Eq.trans (if_neg q6) <| Eq.trans (if_pos q7) <| if_pos q10] at J21; exact J21) | exact J21 | (simp only [if_neg q6, if_pos q7, if_pos q10] at J21 ⊢; exact J21)
      · refine Wk.goto o_pickJob_43 ?_
        first | (rw [show ((if ((v1 * v2) / ((A 0) v5)) < 0 then v3 else (if ((v1 * v2) / ((A 0) v5)) < (128 : Int32) then (if ((((v1 * v2) / ((A 0) v5)) * ((A 0) v5)) + ((A 2) v5)) < ((v1 + (1 : Int32)) * v2) then v3 else (if 0 < ((A 6) ((v5 * (128 : Int32)) + ((v1 * v2) / ((A 0) v5)))) then (if v3 < 0 then ((v5 * (128 : Int32)) + ((v1 * v2) / ((A 0) v5))) else (if ((((v1 * v2) / ((A 0) v5)) * ((A 0) v5)) + ((A 2) v5)) < v4 then ((v5 * (128 : Int32)) + ((v1 * v2) / ((A 0) v5))) else v3)) else v3)) else v3)) : Int32) = v3 from Eq.trans (if_neg q6) <| if_neg q7, show ((if ((v1 * v2) / ((A 0) v5)) < 0 then v4 else (if ((v1 * v2) / ((A 0) v5)) < (128 : Int32) then (if ((((v1 * v2) / ((A 0) v5)) * ((A 0) v5)) + ((A 2) v5)) < ((v1 + (1 : Int32)) * v2) then v4 else (if 0 < ((A 6) ((v5 * (128 : Int32)) + ((v1 * v2) / ((A 0) v5)))) then (if v3 < 0 then ((((v1 * v2) / ((A 0) v5)) * ((A 0) v5)) + ((A 2) v5)) else (if ((((v1 * v2) / ((A 0) v5)) * ((A 0) v5)) + ((A 2) v5)) < v4 then ((((v1 * v2) / ((A 0) v5)) * ((A 0) v5)) + ((A 2) v5)) else v4)) else v4)) else v4)) : Int32) = v4 from Eq.trans (if_neg q6) <| if_neg q7] at J21; exact J21) | exact J21 | (simp only [if_neg q6, if_neg q7] at J21 ⊢; exact J21)

theorem rt_pickJob (F : Nat → Int32) (G : Nat → Int64) (A : Nat → Int32 → Int32) (B : Nat → Int32 → Int64) (v0 : Int32) (r : Int32) (e : v0 = r) : some (Value.int v0) = some (.int r) ∧ (7, F, G, A, B) = (7, F, G, A, B) := by subst e; exact ⟨rfl, rfl⟩
def lp_pickJob : Nat → Nat → Int32 → Int32 → Int32 → Int32 → Int32 → (Nat → Int32) → (Nat → Int32 → Int32) → Option (Int32)
  | 0, _, _, _, _, _, _, _, _ => none
  | n + 1, tag, v1, v2, v3, v4, v5, F, A => if tag = 8 then (if v5 < (F 2) then (if (¬ v5 < 0) ∧ (v5 < (8 : Int32)) ∧ (¬ ((A 0) v5) = (0 : Int32)) ∧ (¬ ((v1 * v2) / ((A 0) v5)) < 0 → ((v1 * v2) / ((A 0) v5)) < (128 : Int32) → ¬ v5 < 0) ∧ (¬ ((v1 * v2) / ((A 0) v5)) < 0 → ((v1 * v2) / ((A 0) v5)) < (128 : Int32) → v5 < (8 : Int32)) ∧ (¬ ((v1 * v2) / ((A 0) v5)) < 0 → ((v1 * v2) / ((A 0) v5)) < (128 : Int32) → ¬ ((((v1 * v2) / ((A 0) v5)) * ((A 0) v5)) + ((A 2) v5)) < ((v1 + (1 : Int32)) * v2) → ¬ ((v5 * (128 : Int32)) + ((v1 * v2) / ((A 0) v5))) < 0) ∧ (¬ ((v1 * v2) / ((A 0) v5)) < 0 → ((v1 * v2) / ((A 0) v5)) < (128 : Int32) → ¬ ((((v1 * v2) / ((A 0) v5)) * ((A 0) v5)) + ((A 2) v5)) < ((v1 + (1 : Int32)) * v2) → ((v5 * (128 : Int32)) + ((v1 * v2) / ((A 0) v5))) < (1024 : Int32)) then lp_pickJob n 8 v1 v2 (if ((v1 * v2) / ((A 0) v5)) < 0 then v3 else (if ((v1 * v2) / ((A 0) v5)) < (128 : Int32) then (if ((((v1 * v2) / ((A 0) v5)) * ((A 0) v5)) + ((A 2) v5)) < ((v1 + (1 : Int32)) * v2) then v3 else (if 0 < ((A 6) ((v5 * (128 : Int32)) + ((v1 * v2) / ((A 0) v5)))) then (if v3 < 0 then ((v5 * (128 : Int32)) + ((v1 * v2) / ((A 0) v5))) else (if ((((v1 * v2) / ((A 0) v5)) * ((A 0) v5)) + ((A 2) v5)) < v4 then ((v5 * (128 : Int32)) + ((v1 * v2) / ((A 0) v5))) else v3)) else v3)) else v3)) (if ((v1 * v2) / ((A 0) v5)) < 0 then v4 else (if ((v1 * v2) / ((A 0) v5)) < (128 : Int32) then (if ((((v1 * v2) / ((A 0) v5)) * ((A 0) v5)) + ((A 2) v5)) < ((v1 + (1 : Int32)) * v2) then v4 else (if 0 < ((A 6) ((v5 * (128 : Int32)) + ((v1 * v2) / ((A 0) v5)))) then (if v3 < 0 then ((((v1 * v2) / ((A 0) v5)) * ((A 0) v5)) + ((A 2) v5)) else (if ((((v1 * v2) / ((A 0) v5)) * ((A 0) v5)) + ((A 2) v5)) < v4 then ((((v1 * v2) / ((A 0) v5)) * ((A 0) v5)) + ((A 2) v5)) else v4)) else v4)) else v4)) (v5 + (1 : Int32)) F A else none) else some (v3)) else none
theorem lp_pickJob_z (tag : Nat) (v1 : Int32) (v2 : Int32) (v3 : Int32) (v4 : Int32) (v5 : Int32) (F : Nat → Int32) (A : Nat → Int32 → Int32) : lp_pickJob 0 tag v1 v2 v3 v4 v5 F A = none := Eq.trans rfl rfl
theorem lp_pickJob_8 (n : Nat) (v1 : Int32) (v2 : Int32) (v3 : Int32) (v4 : Int32) (v5 : Int32) (F : Nat → Int32) (A : Nat → Int32 → Int32) : lp_pickJob (n + 1) 8 v1 v2 v3 v4 v5 F A = (if v5 < (F 2) then (if (¬ v5 < 0) ∧ (v5 < (8 : Int32)) ∧ (¬ ((A 0) v5) = (0 : Int32)) ∧ (¬ ((v1 * v2) / ((A 0) v5)) < 0 → ((v1 * v2) / ((A 0) v5)) < (128 : Int32) → ¬ v5 < 0) ∧ (¬ ((v1 * v2) / ((A 0) v5)) < 0 → ((v1 * v2) / ((A 0) v5)) < (128 : Int32) → v5 < (8 : Int32)) ∧ (¬ ((v1 * v2) / ((A 0) v5)) < 0 → ((v1 * v2) / ((A 0) v5)) < (128 : Int32) → ¬ ((((v1 * v2) / ((A 0) v5)) * ((A 0) v5)) + ((A 2) v5)) < ((v1 + (1 : Int32)) * v2) → ¬ ((v5 * (128 : Int32)) + ((v1 * v2) / ((A 0) v5))) < 0) ∧ (¬ ((v1 * v2) / ((A 0) v5)) < 0 → ((v1 * v2) / ((A 0) v5)) < (128 : Int32) → ¬ ((((v1 * v2) / ((A 0) v5)) * ((A 0) v5)) + ((A 2) v5)) < ((v1 + (1 : Int32)) * v2) → ((v5 * (128 : Int32)) + ((v1 * v2) / ((A 0) v5))) < (1024 : Int32)) then lp_pickJob n 8 v1 v2 (if ((v1 * v2) / ((A 0) v5)) < 0 then v3 else (if ((v1 * v2) / ((A 0) v5)) < (128 : Int32) then (if ((((v1 * v2) / ((A 0) v5)) * ((A 0) v5)) + ((A 2) v5)) < ((v1 + (1 : Int32)) * v2) then v3 else (if 0 < ((A 6) ((v5 * (128 : Int32)) + ((v1 * v2) / ((A 0) v5)))) then (if v3 < 0 then ((v5 * (128 : Int32)) + ((v1 * v2) / ((A 0) v5))) else (if ((((v1 * v2) / ((A 0) v5)) * ((A 0) v5)) + ((A 2) v5)) < v4 then ((v5 * (128 : Int32)) + ((v1 * v2) / ((A 0) v5))) else v3)) else v3)) else v3)) (if ((v1 * v2) / ((A 0) v5)) < 0 then v4 else (if ((v1 * v2) / ((A 0) v5)) < (128 : Int32) then (if ((((v1 * v2) / ((A 0) v5)) * ((A 0) v5)) + ((A 2) v5)) < ((v1 + (1 : Int32)) * v2) then v4 else (if 0 < ((A 6) ((v5 * (128 : Int32)) + ((v1 * v2) / ((A 0) v5)))) then (if v3 < 0 then ((((v1 * v2) / ((A 0) v5)) * ((A 0) v5)) + ((A 2) v5)) else (if ((((v1 * v2) / ((A 0) v5)) * ((A 0) v5)) + ((A 2) v5)) < v4 then ((((v1 * v2) / ((A 0) v5)) * ((A 0) v5)) + ((A 2) v5)) else v4)) else v4)) else v4)) (v5 + (1 : Int32)) F A else none) else some (v3)) := by
  rw [lp_pickJob, if_pos rfl]
set_option maxRecDepth 65536 in
set_option maxHeartbeats 4000000 in
theorem lpw_pickJob {l : Launch} {Z : State} {a0 : Array Value} (H : OK Z a0) (F : Nat → Int32) (G : Nat → Int64) (A : Nat → Int32 → Int32) (B : Nat → Int32 → Int64) : ∀ (n : Nat) (v1 : Int32) (v2 : Int32) (v3 : Int32) (v4 : Int32) (v5 : Int32) (r : Int32), (lp_pickJob n 8 v1 v2 v3 v4 v5 F A = some r → Wk l Z (MoC Z cdC) md_pickJob 8 [.val (.ref 0), .val (.int v1), .val (.int v2), .val (.int v3), .val (.int v4), .val (.int v5), .unset, .unset, .unset] [] (7, F, G, A, B) 0 0 (fun v w' => v = some (.int r) ∧ w' = (7, F, G, A, B))) := by
  intro n
  induction n with
  | zero =>
    intro v1 v2 v3 v4 v5  r
    exact (fun h => by rw [lp_pickJob_z] at h; cases h)
  | succ n ih =>
    intro v1 v2 v3 v4 v5  r
    refine fun h => ?_
    · rw [lp_pickJob_8] at h
      exact wp_pickJob_8 H F G A B v1 v2 v3 v4 v5 (fun q1 => (rt_pickJob _ _ _ _ _ r (Option.some.inj (ifn q1 h)))) (fun q1 => (gd (ifp q1 h)).1.1) (fun q1 => (gd (ifp q1 h)).1.2.1) (fun q1 => (gd (ifp q1 h)).1.2.2.1) (fun q1 q6 q7 => ((gd (ifp q1 h)).1.2.2.2.1) q6 q7) (fun q1 q6 q7 => ((gd (ifp q1 h)).1.2.2.2.2.1) q6 q7) (fun q1 q6 q7 q10 => ((gd (ifp q1 h)).1.2.2.2.2.2.1) q6 q7 q10) (fun q1 q6 q7 q10 => ((gd (ifp q1 h)).1.2.2.2.2.2.2) q6 q7 q10) (fun q1 => (ih _ _ _ _ _ _) (gd (ifp q1 h)).2)
def en_pickJob (F : Nat → Int32) (A : Nat → Int32 → Int32) (p1 : Int32) (p2 : Int32) : Option (Int32) := lp_pickJob 5000 8 p1 p2 (-1 : Int32) (0 : Int32) (0 : Int32) F A
theorem een_pickJob (F : Nat → Int32) (A : Nat → Int32 → Int32) (p1 : Int32) (p2 : Int32) : en_pickJob F A p1 p2 = lp_pickJob 5000 8 p1 p2 (-1 : Int32) (0 : Int32) (0 : Int32) F A := Eq.trans rfl rfl
def R_pickJob (F : Nat → Int32) (A : Nat → Int32 → Int32) (p1 : Int32) (p2 : Int32) : Int32 := (en_pickJob F A p1 p2).getD (0)
theorem eR_pickJob (F : Nat → Int32) (A : Nat → Int32 → Int32) (p1 : Int32) (p2 : Int32) : R_pickJob F A p1 p2 = (en_pickJob F A p1 p2).getD (0) := Eq.trans rfl rfl
set_option maxRecDepth 65536 in
set_option maxHeartbeats 4000000 in
theorem run_pickJob {l : Launch} {Z : State} {a0 : Array Value} (H : OK Z a0) (F : Nat → Int32) (G : Nat → Int64) (A : Nat → Int32 → Int32) (B : Nat → Int32 → Int64) (p1 : Int32) (p2 : Int32) (e1 : (en_pickJob F A p1 p2).isSome = true) :
    Wk l Z (MoC Z cdC) md_pickJob 0 [.val (.ref 0), .val (.int p1), .val (.int p2), .unset, .unset, .unset, .unset, .unset, .unset] [] (7, F, G, A, B) 0 0 (fun v w' => v = some (.int (R_pickJob F A p1 p2)) ∧ w' = (7, F, G, A, B)) := by
  obtain ⟨r, h⟩ := Option.isSome_iff_exists.mp e1
  have e : R_pickJob F A p1 p2 = r := (eR_pickJob F A p1 p2).trans (getD_some h)
  rw [e]
  rw [een_pickJob] at h
  exact wp_pickJob H F G A B p1 p2 ((lpw_pickJob H F G A B _ _ _ _ _ _ _) h)
set_option maxRecDepth 65536 in
set_option maxHeartbeats 4000000 in
theorem wp_fillFrame {l : Launch} {Z : State} {a0 : Array Value} (H : OK Z a0) (F : Nat → Int32) (G : Nat → Int64) (A : Nat → Int32 → Int32) (B : Nat → Int32 → Int64) (p1 : Int32) (p2 : Int32) {Q : Option Value → WO → Prop} (h1 : Wk l Z (MoC Z cdC) md_fillFrame 14 [.val (.ref 0), .val (.int p1), .val (.int p2), .val (.int ((p1 + (1 : Int32)) * p2)), .val (.int (p1 * p2)), .val (.int (0 : Int32)), .unset, .unset, .unset, .unset, .unset] [] (7, F, G, A, B) 0 0 Q) :
    Wk l Z (MoC Z cdC) md_fillFrame 0 [.val (.ref 0), .val (.int p1), .val (.int p2), .unset, .unset, .unset, .unset, .unset, .unset, .unset, .unset] [] (7, F, G, A, B) 0 0 Q := by
  refine Wk.iloadN o_fillFrame_0 rfl ?_
  refine Wk.iconst o_fillFrame_1 (z := (1 : Int32)) (by decide) ?_
  refine Wk.iadd o_fillFrame_2 ?_
  refine Wk.iloadN o_fillFrame_3 rfl ?_
  refine Wk.imul o_fillFrame_4 ?_
  refine Wk.istoreN o_fillFrame_5 (Or.inl rfl) (L' := [.val (.ref 0), .val (.int p1), .val (.int p2), .val (.int ((p1 + (1 : Int32)) * p2)), .unset, .unset, .unset, .unset, .unset, .unset, .unset]) rfl ?_
  refine Wk.iloadN o_fillFrame_6 rfl ?_
  refine Wk.iloadN o_fillFrame_7 rfl ?_
  refine Wk.imul o_fillFrame_8 ?_
  refine Wk.istore o_fillFrame_9 (Or.inl rfl) (L' := [.val (.ref 0), .val (.int p1), .val (.int p2), .val (.int ((p1 + (1 : Int32)) * p2)), .val (.int (p1 * p2)), .unset, .unset, .unset, .unset, .unset, .unset]) rfl ?_
  refine Wk.iconst o_fillFrame_11 (z := (0 : Int32)) (by decide) ?_
  refine Wk.istore o_fillFrame_12 (Or.inl rfl) (L' := [.val (.ref 0), .val (.int p1), .val (.int p2), .val (.int ((p1 + (1 : Int32)) * p2)), .val (.int (p1 * p2)), .val (.int (0 : Int32)), .unset, .unset, .unset, .unset, .unset]) rfl ?_
  exact h1

set_option maxRecDepth 65536 in
set_option maxHeartbeats 4000000 in
theorem wp_fillFrame_14 {l : Launch} {Z : State} {a0 : Array Value} (H : OK Z a0) (F : Nat → Int32) (G : Nat → Int64) (A : Nat → Int32 → Int32) (B : Nat → Int32 → Int64) (v1 : Int32) (v2 : Int32) (v3 : Int32) (v4 : Int32) (v5 : Int32) {Q : Option Value → WO → Prop} (h2 : ¬ v5 < v2 → Q none (7, F, G, A, B)) (h4 : v5 < v2 → ¬ v4 < v3 → Q none (7, F, G, A, B)) (s5 : v5 < v2 → v4 < v3 → (en_pickJob F A v1 v2).isSome = true) (s7 : v5 < v2 → v4 < v3 → ¬ (R_pickJob F A v1 v2) < 0 → (R_pickJob F A v1 v2) < (1024 : Int32)) (h10 : v5 < v2 → v4 < v3 → ¬ (R_pickJob F A v1 v2) < 0 → Wk l Z (MoC Z cdC) md_fillFrame 86 [.val (.ref 0), .val (.int v1), .val (.int v2), .val (.int v3), .val (.int v4), .val (.int v5), .val (.int (R_pickJob F A v1 v2)), .val (.int (if (v3 - v4) < ((A 6) (R_pickJob F A v1 v2)) then (v3 - v4) else ((A 6) (R_pickJob F A v1 v2)))), .val (.int ((R_pickJob F A v1 v2) / (128 : Int32))), .val (.int ((R_pickJob F A v1 v2) % (128 : Int32))), .val (.int v4)] [] (7, F, G, A, B) 0 0 Q) (h11 : v5 < v2 → v4 < v3 → (R_pickJob F A v1 v2) < 0 → Q none (7, F, G, A, B)) :
    Wk l Z (MoC Z cdC) md_fillFrame 14 [.val (.ref 0), .val (.int v1), .val (.int v2), .val (.int v3), .val (.int v4), .val (.int v5), .unset, .unset, .unset, .unset, .unset] [] (7, F, G, A, B) 0 0 Q := by
  refine Wk.iload o_fillFrame_14 rfl ?_
  refine Wk.iloadN o_fillFrame_16 rfl ?_
  refine Wk.icmp_ge o_fillFrame_17 (fun q1 => ?_) (fun q1 => ?_)
  · exact Wk.ret mrC rfl o_fillFrame_153 rfl (by decide) (by decide) (h2 q1)
  · refine Wk.iload o_fillFrame_20 rfl ?_
    refine Wk.iloadN o_fillFrame_22 rfl ?_
    refine Wk.icmp_ge o_fillFrame_23 (fun q3 => ?_) (fun q3 => ?_)
    · exact Wk.ret mrC rfl o_fillFrame_153 rfl (by decide) (by decide) (h4 q1 q3)
    · refine Wk.aloadN o_fillFrame_26 rfl ?_
      refine Wk.iloadN o_fillFrame_27 rfl ?_
      refine Wk.iloadN o_fillFrame_28 rfl ?_
      refine Wk.callF [.int v1, .int v2] [] (H.w 89 rfl) (cv_pickJob H) o_fillFrame_29 (run_pickJob H F G A B v1 v2 (s5 q1 q3)) (wt := 0) (cu' := 0) (su' := 0) (by decide) rfl rfl rfl rfl rfl rfl rfl ?_
      refine Wk.istore o_fillFrame_32 (Or.inl rfl) (L' := [.val (.ref 0), .val (.int v1), .val (.int v2), .val (.int v3), .val (.int v4), .val (.int v5), .val (.int (R_pickJob F A v1 v2)), .unset, .unset, .unset, .unset]) rfl ?_
      refine Wk.iload o_fillFrame_34 rfl ?_
      refine Wk.if_ge o_fillFrame_36 (fun q6 => ?_) (fun q6 => ?_)
      · refine Wk.aloadN o_fillFrame_42 rfl ?_
        refine Wk.getA (mA_rem) (by decide) (i' := 7) rfl (wf_rem H) o_fillFrame_43 ?_
        refine Wk.iload o_fillFrame_46 rfl ?_
        refine Wk.iaload (mA_rem) (by decide) (i' := 7) rfl q6 (s7 q1 q3 q6) o_fillFrame_48 (y := ((A 6) (R_pickJob F A v1 v2))) rfl ?_
        refine Wk.istore o_fillFrame_49 (Or.inl rfl) (L' := [.val (.ref 0), .val (.int v1), .val (.int v2), .val (.int v3), .val (.int v4), .val (.int v5), .val (.int (R_pickJob F A v1 v2)), .val (.int ((A 6) (R_pickJob F A v1 v2))), .unset, .unset, .unset]) rfl ?_
        refine Wk.iloadN o_fillFrame_51 rfl ?_
        refine Wk.iload o_fillFrame_52 rfl ?_
        refine Wk.isub o_fillFrame_54 ?_
        refine Wk.iload o_fillFrame_55 rfl ?_
        have J9 : Wk l Z (MoC Z cdC) md_fillFrame 66 [.val (.ref 0), .val (.int v1), .val (.int v2), .val (.int v3), .val (.int v4), .val (.int v5), .val (.int (R_pickJob F A v1 v2)), .val (.int (if (v3 - v4) < ((A 6) (R_pickJob F A v1 v2)) then (v3 - v4) else ((A 6) (R_pickJob F A v1 v2)))), .unset, .unset, .unset] [] (7, F, G, A, B) 0 0 Q := by
          refine Wk.iload o_fillFrame_66 rfl ?_
          refine Wk.sipush o_fillFrame_68 (z := (128 : Int32)) (by decide) ?_
          refine Wk.idiv o_fillFrame_71 (by decide) ?_
          refine Wk.istore o_fillFrame_72 (Or.inl rfl) (L' := [.val (.ref 0), .val (.int v1), .val (.int v2), .val (.int v3), .val (.int v4), .val (.int v5), .val (.int (R_pickJob F A v1 v2)), .val (.int (if (v3 - v4) < ((A 6) (R_pickJob F A v1 v2)) then (v3 - v4) else ((A 6) (R_pickJob F A v1 v2)))), .val (.int ((R_pickJob F A v1 v2) / (128 : Int32))), .unset, .unset]) rfl ?_
          refine Wk.iload o_fillFrame_74 rfl ?_
          refine Wk.sipush o_fillFrame_76 (z := (128 : Int32)) (by decide) ?_
          refine Wk.irem o_fillFrame_79 (by decide) ?_
          refine Wk.istore o_fillFrame_80 (Or.inl rfl) (L' := [.val (.ref 0), .val (.int v1), .val (.int v2), .val (.int v3), .val (.int v4), .val (.int v5), .val (.int (R_pickJob F A v1 v2)), .val (.int (if (v3 - v4) < ((A 6) (R_pickJob F A v1 v2)) then (v3 - v4) else ((A 6) (R_pickJob F A v1 v2)))), .val (.int ((R_pickJob F A v1 v2) / (128 : Int32))), .val (.int ((R_pickJob F A v1 v2) % (128 : Int32))), .unset]) rfl ?_
          refine Wk.iload o_fillFrame_82 rfl ?_
          refine Wk.istore o_fillFrame_84 (Or.inl rfl) (L' := [.val (.ref 0), .val (.int v1), .val (.int v2), .val (.int v3), .val (.int v4), .val (.int v5), .val (.int (R_pickJob F A v1 v2)), .val (.int (if (v3 - v4) < ((A 6) (R_pickJob F A v1 v2)) then (v3 - v4) else ((A 6) (R_pickJob F A v1 v2)))), .val (.int ((R_pickJob F A v1 v2) / (128 : Int32))), .val (.int ((R_pickJob F A v1 v2) % (128 : Int32))), .val (.int v4)]) rfl ?_
          exact (h10 q1 q3 q6)
        refine Wk.icmp_ge o_fillFrame_57 (fun q8 => ?_) (fun q8 => ?_)
        · first | (rw [show ((if (v3 - v4) < ((A 6) (R_pickJob F A v1 v2)) then (v3 - v4) else ((A 6) (R_pickJob F A v1 v2))) : Int32) = ((A 6) (R_pickJob F A v1 v2)) from if_neg q8] at J9; exact J9) | exact J9 | (simp only [if_neg q8] at J9 ⊢; exact J9)
        · refine Wk.iloadN o_fillFrame_60 rfl ?_
          refine Wk.iload o_fillFrame_61 rfl ?_
          refine Wk.isub o_fillFrame_63 ?_
          refine Wk.istore o_fillFrame_64 (Or.inr ⟨_, rfl, rfl⟩) (L' := [.val (.ref 0), .val (.int v1), .val (.int v2), .val (.int v3), .val (.int v4), .val (.int v5), .val (.int (R_pickJob F A v1 v2)), .val (.int (v3 - v4)), .unset, .unset, .unset]) rfl ?_
          first | (rw [show ((if (v3 - v4) < ((A 6) (R_pickJob F A v1 v2)) then (v3 - v4) else ((A 6) (R_pickJob F A v1 v2))) : Int32) = (v3 - v4) from if_pos q8] at J9; exact J9) | exact J9 | (simp only [if_pos q8] at J9 ⊢; exact J9)
      · refine Wk.goto o_fillFrame_39 ?_
        exact Wk.ret mrC rfl o_fillFrame_153 rfl (by decide) (by decide) (h11 q1 q3 q6)

set_option maxRecDepth 65536 in
set_option maxHeartbeats 4000000 in
theorem wp_fillFrame_86 {l : Launch} {Z : State} {a0 : Array Value} (H : OK Z a0) (F : Nat → Int32) (G : Nat → Int64) (A : Nat → Int32 → Int32) (B : Nat → Int32 → Int64) (v1 : Int32) (v2 : Int32) (v3 : Int32) (v4 : Int32) (v5 : Int32) (v6 : Int32) (v7 : Int32) (v8 : Int32) (v9 : Int32) (v10 : Int32) {Q : Option Value → WO → Prop} (s2 : ¬ v10 < (v4 + v7) → ¬ v6 < 0) (s3 : ¬ v10 < (v4 + v7) → v6 < (1024 : Int32)) (h4 : ¬ v10 < (v4 + v7) → Wk l Z (MoC Z cdC) md_fillFrame 14 [.val (.ref 0), .val (.int v1), .val (.int v2), .val (.int v3), .val (.int (v4 + v7)), .val (.int (v5 + (1 : Int32))), .unset, .unset, .unset, .unset, .unset] [] (7, F, G, (ups A 6 (ups (A 6) v6 (((A 6) v6) - v7))), B) 0 0 Q) (s6 : v10 < (v4 + v7) → ¬ v10 < (128 : Int32) → ¬ v6 < 0) (s7 : v10 < (v4 + v7) → ¬ v10 < (128 : Int32) → v6 < (1024 : Int32)) (h8 : v10 < (v4 + v7) → ¬ v10 < (128 : Int32) → Wk l Z (MoC Z cdC) md_fillFrame 14 [.val (.ref 0), .val (.int v1), .val (.int v2), .val (.int v3), .val (.int (v4 + v7)), .val (.int (v5 + (1 : Int32))), .unset, .unset, .unset, .unset, .unset] [] (7, F, G, (ups A 6 (ups (A 6) v6 (((A 6) v6) - v7))), B) 0 0 Q) (s9 : v10 < (v4 + v7) → v10 < (128 : Int32) → ¬ v10 < 0) (h10 : v10 < (v4 + v7) → v10 < (128 : Int32) → Wk l Z (MoC Z cdC) md_fillFrame 86 [.val (.ref 0), .val (.int v1), .val (.int v2), .val (.int v3), .val (.int v4), .val (.int v5), .val (.int v6), .val (.int v7), .val (.int v8), .val (.int v9), .val (.int (v10 + (1 : Int32)))] [] (7, F, G, (ups (ups A 4 (ups (A 4) v10 v8)) 5 (ups (A 5) v10 v9)), B) 0 0 Q) :
    Wk l Z (MoC Z cdC) md_fillFrame 86 [.val (.ref 0), .val (.int v1), .val (.int v2), .val (.int v3), .val (.int v4), .val (.int v5), .val (.int v6), .val (.int v7), .val (.int v8), .val (.int v9), .val (.int v10)] [] (7, F, G, A, B) 0 0 Q := by
  refine Wk.iload o_fillFrame_86 rfl ?_
  refine Wk.iload o_fillFrame_88 rfl ?_
  refine Wk.iload o_fillFrame_90 rfl ?_
  refine Wk.iadd o_fillFrame_92 ?_
  refine Wk.icmp_ge o_fillFrame_93 (fun q1 => ?_) (fun q1 => ?_)
  · refine Wk.aloadN o_fillFrame_128 rfl ?_
    refine Wk.getA (mA_rem) (by decide) (i' := 7) rfl (wf_rem H) o_fillFrame_129 ?_
    refine Wk.iload o_fillFrame_132 rfl ?_
    refine Wk.dup2 o_fillFrame_134 rfl rfl ?_
    refine Wk.iaload (mA_rem) (by decide) (i' := 7) rfl (s2 q1) (s3 q1) o_fillFrame_135 (y := ((A 6) v6)) rfl ?_
    refine Wk.iload o_fillFrame_136 rfl ?_
    refine Wk.isub o_fillFrame_138 ?_
    refine Wk.iastore (coC H) (f := (A 6)) (mA_rem) rfl (by decide) (i' := 7) rfl (s2 q1) (s3 q1) o_fillFrame_139 ?_
    refine Wk.iload o_fillFrame_140 rfl ?_
    refine Wk.iload o_fillFrame_142 rfl ?_
    refine Wk.iadd o_fillFrame_144 ?_
    refine Wk.istore o_fillFrame_145 (Or.inr ⟨_, rfl, rfl⟩) (L' := [.val (.ref 0), .val (.int v1), .val (.int v2), .val (.int v3), .val (.int (v4 + v7)), .val (.int v5), .val (.int v6), .val (.int v7), .val (.int v8), .val (.int v9), .val (.int v10)]) rfl ?_
    refine Wk.iinc o_fillFrame_147 rfl (z := (v5 + (1 : Int32))) rfl (L' := [.val (.ref 0), .val (.int v1), .val (.int v2), .val (.int v3), .val (.int (v4 + v7)), .val (.int (v5 + (1 : Int32))), .val (.int v6), .val (.int v7), .val (.int v8), .val (.int v9), .val (.int v10)]) rfl ?_
    refine Wk.goto o_fillFrame_150 ?_
    refine Wk.forget [false, false, false, false, false, false, true, true, true, true, true] (L' := [.val (.ref 0), .val (.int v1), .val (.int v2), .val (.int v3), .val (.int (v4 + v7)), .val (.int (v5 + (1 : Int32))), .unset, .unset, .unset, .unset, .unset]) rfl rfl ?_
    exact (h4 q1)
  · refine Wk.iload o_fillFrame_96 rfl ?_
    refine Wk.sipush o_fillFrame_98 (z := (128 : Int32)) (by decide) ?_
    refine Wk.icmp_ge o_fillFrame_101 (fun q5 => ?_) (fun q5 => ?_)
    · refine Wk.aloadN o_fillFrame_128 rfl ?_
      refine Wk.getA (mA_rem) (by decide) (i' := 7) rfl (wf_rem H) o_fillFrame_129 ?_
      refine Wk.iload o_fillFrame_132 rfl ?_
      refine Wk.dup2 o_fillFrame_134 rfl rfl ?_
      refine Wk.iaload (mA_rem) (by decide) (i' := 7) rfl (s6 q1 q5) (s7 q1 q5) o_fillFrame_135 (y := ((A 6) v6)) rfl ?_
      refine Wk.iload o_fillFrame_136 rfl ?_
      refine Wk.isub o_fillFrame_138 ?_
      refine Wk.iastore (coC H) (f := (A 6)) (mA_rem) rfl (by decide) (i' := 7) rfl (s6 q1 q5) (s7 q1 q5) o_fillFrame_139 ?_
      refine Wk.iload o_fillFrame_140 rfl ?_
      refine Wk.iload o_fillFrame_142 rfl ?_
      refine Wk.iadd o_fillFrame_144 ?_
      refine Wk.istore o_fillFrame_145 (Or.inr ⟨_, rfl, rfl⟩) (L' := [.val (.ref 0), .val (.int v1), .val (.int v2), .val (.int v3), .val (.int (v4 + v7)), .val (.int v5), .val (.int v6), .val (.int v7), .val (.int v8), .val (.int v9), .val (.int v10)]) rfl ?_
      refine Wk.iinc o_fillFrame_147 rfl (z := (v5 + (1 : Int32))) rfl (L' := [.val (.ref 0), .val (.int v1), .val (.int v2), .val (.int v3), .val (.int (v4 + v7)), .val (.int (v5 + (1 : Int32))), .val (.int v6), .val (.int v7), .val (.int v8), .val (.int v9), .val (.int v10)]) rfl ?_
      refine Wk.goto o_fillFrame_150 ?_
      refine Wk.forget [false, false, false, false, false, false, true, true, true, true, true] (L' := [.val (.ref 0), .val (.int v1), .val (.int v2), .val (.int v3), .val (.int (v4 + v7)), .val (.int (v5 + (1 : Int32))), .unset, .unset, .unset, .unset, .unset]) rfl rfl ?_
      exact (h8 q1 q5)
    · refine Wk.aloadN o_fillFrame_104 rfl ?_
      refine Wk.getA (mA_tickTask) (by decide) (i' := 5) rfl (wf_tickTask H) o_fillFrame_105 ?_
      refine Wk.iload o_fillFrame_108 rfl ?_
      refine Wk.iload o_fillFrame_110 rfl ?_
      refine Wk.iastore (coC H) (f := (A 4)) (mA_tickTask) rfl (by decide) (i' := 5) rfl (s9 q1 q5) q5 o_fillFrame_112 ?_
      refine Wk.aloadN o_fillFrame_113 rfl ?_
      refine Wk.getA (mA_tickJob) (by decide) (i' := 6) rfl (wf_tickJob H) o_fillFrame_114 ?_
      refine Wk.iload o_fillFrame_117 rfl ?_
      refine Wk.iload o_fillFrame_119 rfl ?_
      refine Wk.iastore (coC H) (f := (A 5)) (mA_tickJob) rfl (by decide) (i' := 6) rfl (s9 q1 q5) q5 o_fillFrame_121 ?_
      refine Wk.iinc o_fillFrame_122 rfl (z := (v10 + (1 : Int32))) rfl (L' := [.val (.ref 0), .val (.int v1), .val (.int v2), .val (.int v3), .val (.int v4), .val (.int v5), .val (.int v6), .val (.int v7), .val (.int v8), .val (.int v9), .val (.int (v10 + (1 : Int32)))]) rfl ?_
      refine Wk.goto o_fillFrame_125 ?_
      exact (h10 q1 q5)

theorem rt_fillFrame (F : Nat → Int32) (G : Nat → Int64) (B : Nat → Int32 → Int64) (v0 : Int32) (xA : Nat → Int32 → Int32) (r : Int32 × (Nat → Int32 → Int32)) (e : (v0, xA) = r) : (none : Option Value) = none ∧ (7, F, G, xA, B) = (7, F, G, r.2, B) := by subst e; exact ⟨rfl, rfl⟩
def lp_fillFrame : Nat → Nat → Int32 → Int32 → Int32 → Int32 → Int32 → Int32 → Int32 → Int32 → Int32 → Int32 → (Nat → Int32) → (Nat → Int32 → Int32) → Option (Int32 × (Nat → Int32 → Int32))
  | 0, _, _, _, _, _, _, _, _, _, _, _, _, _ => none
  | n + 1, tag, v1, v2, v3, v4, v5, v6, v7, v8, v9, v10, F, A => if tag = 14 then (if v5 < v2 then (if v4 < v3 then (if ((en_pickJob F A v1 v2).isSome = true) then (if (R_pickJob F A v1 v2) < 0 then some ((0 : Int32), A) else (if ((R_pickJob F A v1 v2) < (1024 : Int32)) then lp_fillFrame n 86 v1 v2 v3 v4 v5 (R_pickJob F A v1 v2) (if (v3 - v4) < ((A 6) (R_pickJob F A v1 v2)) then (v3 - v4) else ((A 6) (R_pickJob F A v1 v2))) ((R_pickJob F A v1 v2) / (128 : Int32)) ((R_pickJob F A v1 v2) % (128 : Int32)) v4 F A else none)) else none) else some ((0 : Int32), A)) else some ((0 : Int32), A)) else if tag = 86 then (if v10 < (v4 + v7) then (if v10 < (128 : Int32) then (if (¬ v10 < 0) then lp_fillFrame n 86 v1 v2 v3 v4 v5 v6 v7 v8 v9 (v10 + (1 : Int32)) F (ups (ups A 4 (ups (A 4) v10 v8)) 5 (ups (A 5) v10 v9)) else none) else (if (¬ v6 < 0) ∧ (v6 < (1024 : Int32)) then lp_fillFrame n 14 v1 v2 v3 (v4 + v7) (v5 + (1 : Int32)) 0 0 0 0 0 F (ups A 6 (ups (A 6) v6 (((A 6) v6) - v7))) else none)) else (if (¬ v6 < 0) ∧ (v6 < (1024 : Int32)) then lp_fillFrame n 14 v1 v2 v3 (v4 + v7) (v5 + (1 : Int32)) 0 0 0 0 0 F (ups A 6 (ups (A 6) v6 (((A 6) v6) - v7))) else none)) else none
theorem lp_fillFrame_z (tag : Nat) (v1 : Int32) (v2 : Int32) (v3 : Int32) (v4 : Int32) (v5 : Int32) (v6 : Int32) (v7 : Int32) (v8 : Int32) (v9 : Int32) (v10 : Int32) (F : Nat → Int32) (A : Nat → Int32 → Int32) : lp_fillFrame 0 tag v1 v2 v3 v4 v5 v6 v7 v8 v9 v10 F A = none := Eq.trans rfl rfl
theorem lp_fillFrame_14 (n : Nat) (v1 : Int32) (v2 : Int32) (v3 : Int32) (v4 : Int32) (v5 : Int32) (v6 : Int32) (v7 : Int32) (v8 : Int32) (v9 : Int32) (v10 : Int32) (F : Nat → Int32) (A : Nat → Int32 → Int32) : lp_fillFrame (n + 1) 14 v1 v2 v3 v4 v5 v6 v7 v8 v9 v10 F A = (if v5 < v2 then (if v4 < v3 then (if ((en_pickJob F A v1 v2).isSome = true) then (if (R_pickJob F A v1 v2) < 0 then some ((0 : Int32), A) else (if ((R_pickJob F A v1 v2) < (1024 : Int32)) then lp_fillFrame n 86 v1 v2 v3 v4 v5 (R_pickJob F A v1 v2) (if (v3 - v4) < ((A 6) (R_pickJob F A v1 v2)) then (v3 - v4) else ((A 6) (R_pickJob F A v1 v2))) ((R_pickJob F A v1 v2) / (128 : Int32)) ((R_pickJob F A v1 v2) % (128 : Int32)) v4 F A else none)) else none) else some ((0 : Int32), A)) else some ((0 : Int32), A)) := by
  rw [lp_fillFrame, if_pos rfl]
theorem lp_fillFrame_86 (n : Nat) (v1 : Int32) (v2 : Int32) (v3 : Int32) (v4 : Int32) (v5 : Int32) (v6 : Int32) (v7 : Int32) (v8 : Int32) (v9 : Int32) (v10 : Int32) (F : Nat → Int32) (A : Nat → Int32 → Int32) : lp_fillFrame (n + 1) 86 v1 v2 v3 v4 v5 v6 v7 v8 v9 v10 F A = (if v10 < (v4 + v7) then (if v10 < (128 : Int32) then (if (¬ v10 < 0) then lp_fillFrame n 86 v1 v2 v3 v4 v5 v6 v7 v8 v9 (v10 + (1 : Int32)) F (ups (ups A 4 (ups (A 4) v10 v8)) 5 (ups (A 5) v10 v9)) else none) else (if (¬ v6 < 0) ∧ (v6 < (1024 : Int32)) then lp_fillFrame n 14 v1 v2 v3 (v4 + v7) (v5 + (1 : Int32)) 0 0 0 0 0 F (ups A 6 (ups (A 6) v6 (((A 6) v6) - v7))) else none)) else (if (¬ v6 < 0) ∧ (v6 < (1024 : Int32)) then lp_fillFrame n 14 v1 v2 v3 (v4 + v7) (v5 + (1 : Int32)) 0 0 0 0 0 F (ups A 6 (ups (A 6) v6 (((A 6) v6) - v7))) else none)) := by
  rw [lp_fillFrame, if_neg (by decide), if_pos rfl]
set_option maxRecDepth 65536 in
set_option maxHeartbeats 4000000 in
theorem lpw_fillFrame {l : Launch} {Z : State} {a0 : Array Value} (H : OK Z a0) (F : Nat → Int32) (G : Nat → Int64) (B : Nat → Int32 → Int64) : ∀ (n : Nat) (v1 : Int32) (v2 : Int32) (v3 : Int32) (v4 : Int32) (v5 : Int32) (v6 : Int32) (v7 : Int32) (v8 : Int32) (v9 : Int32) (v10 : Int32) (A : Nat → Int32 → Int32) (r : Int32 × (Nat → Int32 → Int32)), (lp_fillFrame n 14 v1 v2 v3 v4 v5 v6 v7 v8 v9 v10 F A = some r → Wk l Z (MoC Z cdC) md_fillFrame 14 [.val (.ref 0), .val (.int v1), .val (.int v2), .val (.int v3), .val (.int v4), .val (.int v5), .unset, .unset, .unset, .unset, .unset] [] (7, F, G, A, B) 0 0 (fun v w' => v = none ∧ w' = (7, F, G, r.2, B))) ∧ (lp_fillFrame n 86 v1 v2 v3 v4 v5 v6 v7 v8 v9 v10 F A = some r → Wk l Z (MoC Z cdC) md_fillFrame 86 [.val (.ref 0), .val (.int v1), .val (.int v2), .val (.int v3), .val (.int v4), .val (.int v5), .val (.int v6), .val (.int v7), .val (.int v8), .val (.int v9), .val (.int v10)] [] (7, F, G, A, B) 0 0 (fun v w' => v = none ∧ w' = (7, F, G, r.2, B))) := by
  intro n
  induction n with
  | zero =>
    intro v1 v2 v3 v4 v5 v6 v7 v8 v9 v10 A r
    exact ⟨(fun h => by rw [lp_fillFrame_z] at h; cases h), (fun h => by rw [lp_fillFrame_z] at h; cases h)⟩
  | succ n ih =>
    intro v1 v2 v3 v4 v5 v6 v7 v8 v9 v10 A r
    refine ⟨fun h => ?_, fun h => ?_⟩
    · rw [lp_fillFrame_14] at h
      exact wp_fillFrame_14 H F G A B v1 v2 v3 v4 v5 (fun q1 => (rt_fillFrame _ _ _ _ _ r (Option.some.inj (ifn q1 h)))) (fun q1 q3 => (rt_fillFrame _ _ _ _ _ r (Option.some.inj (ifn q3 (ifp q1 h))))) (fun q1 q3 => (gd (ifp q3 (ifp q1 h))).1) (fun q1 q3 q6 => (gd (ifn q6 (gd (ifp q3 (ifp q1 h))).2)).1) (fun q1 q3 q6 => (ih _ _ _ _ _ _ _ _ _ _ _ _).2 (gd (ifn q6 (gd (ifp q3 (ifp q1 h))).2)).2) (fun q1 q3 q6 => (rt_fillFrame _ _ _ _ _ r (Option.some.inj (ifp q6 (gd (ifp q3 (ifp q1 h))).2))))
    · rw [lp_fillFrame_86] at h
      exact wp_fillFrame_86 H F G A B v1 v2 v3 v4 v5 v6 v7 v8 v9 v10 (fun q1 => (gd (ifn q1 h)).1.1) (fun q1 => (gd (ifn q1 h)).1.2) (fun q1 => (ih _ _ _ _ _ _ _ _ _ _ _ _).1 (gd (ifn q1 h)).2) (fun q1 q5 => (gd (ifn q5 (ifp q1 h))).1.1) (fun q1 q5 => (gd (ifn q5 (ifp q1 h))).1.2) (fun q1 q5 => (ih _ _ _ _ _ _ _ _ _ _ _ _).1 (gd (ifn q5 (ifp q1 h))).2) (fun q1 q5 => (gd (ifp q5 (ifp q1 h))).1) (fun q1 q5 => (ih _ _ _ _ _ _ _ _ _ _ _ _).2 (gd (ifp q5 (ifp q1 h))).2)
def en_fillFrame (F : Nat → Int32) (A : Nat → Int32 → Int32) (p1 : Int32) (p2 : Int32) : Option (Int32 × (Nat → Int32 → Int32)) := lp_fillFrame 5000 14 p1 p2 ((p1 + (1 : Int32)) * p2) (p1 * p2) (0 : Int32) 0 0 0 0 0 F A
theorem een_fillFrame (F : Nat → Int32) (A : Nat → Int32 → Int32) (p1 : Int32) (p2 : Int32) : en_fillFrame F A p1 p2 = lp_fillFrame 5000 14 p1 p2 ((p1 + (1 : Int32)) * p2) (p1 * p2) (0 : Int32) 0 0 0 0 0 F A := Eq.trans rfl rfl
def R_fillFrame (F : Nat → Int32) (A : Nat → Int32 → Int32) (p1 : Int32) (p2 : Int32) : Int32 × (Nat → Int32 → Int32) := (en_fillFrame F A p1 p2).getD (0, (fun _ _ => 0))
theorem eR_fillFrame (F : Nat → Int32) (A : Nat → Int32 → Int32) (p1 : Int32) (p2 : Int32) : R_fillFrame F A p1 p2 = (en_fillFrame F A p1 p2).getD (0, (fun _ _ => 0)) := Eq.trans rfl rfl
set_option maxRecDepth 65536 in
set_option maxHeartbeats 4000000 in
theorem run_fillFrame {l : Launch} {Z : State} {a0 : Array Value} (H : OK Z a0) (F : Nat → Int32) (G : Nat → Int64) (A : Nat → Int32 → Int32) (B : Nat → Int32 → Int64) (p1 : Int32) (p2 : Int32) (e1 : (en_fillFrame F A p1 p2).isSome = true) :
    Wk l Z (MoC Z cdC) md_fillFrame 0 [.val (.ref 0), .val (.int p1), .val (.int p2), .unset, .unset, .unset, .unset, .unset, .unset, .unset, .unset] [] (7, F, G, A, B) 0 0 (fun v w' => v = none ∧ w' = (7, F, G, (R_fillFrame F A p1 p2).2, B)) := by
  obtain ⟨r, h⟩ := Option.isSome_iff_exists.mp e1
  have e : R_fillFrame F A p1 p2 = r := (eR_fillFrame F A p1 p2).trans (getD_some h)
  rw [e]
  rw [een_fillFrame] at h
  exact wp_fillFrame H F G A B p1 p2 ((lpw_fillFrame H F G B _ _ _ _ _ _ _ _ _ _ _ _ _).1 h)
set_option maxRecDepth 65536 in
set_option maxHeartbeats 4000000 in
theorem wp_findMiss {l : Launch} {Z : State} {a0 : Array Value} (H : OK Z a0) (F : Nat → Int32) (G : Nat → Int64) (A : Nat → Int32 → Int32) (B : Nat → Int32 → Int64) {Q : Option Value → WO → Prop} (h1 : Wk l Z (MoC Z cdC) md_findMiss 6 [.val (.ref 0), .val (.int (-1 : Int32)), .val (.int (0 : Int32)), .val (.int (0 : Int32)), .unset, .unset, .unset, .unset] [] (7, F, G, A, B) 0 0 Q) :
    Wk l Z (MoC Z cdC) md_findMiss 0 [.val (.ref 0), .unset, .unset, .unset, .unset, .unset, .unset, .unset] [] (7, F, G, A, B) 0 0 Q := by
  refine Wk.iconst o_findMiss_0 (z := (-1 : Int32)) (by decide) ?_
  refine Wk.istoreN o_findMiss_1 (Or.inl rfl) (L' := [.val (.ref 0), .val (.int (-1 : Int32)), .unset, .unset, .unset, .unset, .unset, .unset]) rfl ?_
  refine Wk.iconst o_findMiss_2 (z := (0 : Int32)) (by decide) ?_
  refine Wk.istoreN o_findMiss_3 (Or.inl rfl) (L' := [.val (.ref 0), .val (.int (-1 : Int32)), .val (.int (0 : Int32)), .unset, .unset, .unset, .unset, .unset]) rfl ?_
  refine Wk.iconst o_findMiss_4 (z := (0 : Int32)) (by decide) ?_
  refine Wk.istoreN o_findMiss_5 (Or.inl rfl) (L' := [.val (.ref 0), .val (.int (-1 : Int32)), .val (.int (0 : Int32)), .val (.int (0 : Int32)), .unset, .unset, .unset, .unset]) rfl ?_
  exact h1

set_option maxRecDepth 65536 in
set_option maxHeartbeats 4000000 in
theorem wp_findMiss_6 {l : Launch} {Z : State} {a0 : Array Value} (H : OK Z a0) (F : Nat → Int32) (G : Nat → Int64) (A : Nat → Int32 → Int32) (B : Nat → Int32 → Int64) (v1 : Int32) (v2 : Int32) (v3 : Int32) {Q : Option Value → WO → Prop} (h2 : ¬ v3 < (F 2) → Q (some (.int v1)) (7, F, G, A, B)) (s3 : v3 < (F 2) → ¬ v3 < 0) (s4 : v3 < (F 2) → v3 < (8 : Int32)) (s5 : v3 < (F 2) → ¬ ((A 0) v3) = (0 : Int32)) (h6 : v3 < (F 2) → Wk l Z (MoC Z cdC) md_findMiss 30 [.val (.ref 0), .val (.int v1), .val (.int v2), .val (.int v3), .val (.int ((F 3) / ((A 0) v3))), .val (.int (0 : Int32)), .unset, .unset] [] (7, F, G, A, B) 0 0 Q) :
    Wk l Z (MoC Z cdC) md_findMiss 6 [.val (.ref 0), .val (.int v1), .val (.int v2), .val (.int v3), .unset, .unset, .unset, .unset] [] (7, F, G, A, B) 0 0 Q := by
  refine Wk.iloadN o_findMiss_6 rfl ?_
  refine Wk.aloadN o_findMiss_7 rfl ?_
  refine Wk.getI (mI_count) (wf_count H) o_findMiss_8 (x := (F 2)) rfl ?_
  refine Wk.icmp_ge o_findMiss_11 (fun q1 => ?_) (fun q1 => ?_)
  · refine Wk.iloadN o_findMiss_114 rfl ?_
    exact Wk.ireturn mrC rfl o_findMiss_115 rfl (by decide) (by decide) (h2 q1)
  · refine Wk.aloadN o_findMiss_14 rfl ?_
    refine Wk.getI (mI_hyper) (wf_hyper H) o_findMiss_15 (x := (F 3)) rfl ?_
    refine Wk.aloadN o_findMiss_18 rfl ?_
    refine Wk.getA (mA_per) (by decide) (i' := 1) rfl (wf_per H) o_findMiss_19 ?_
    refine Wk.iloadN o_findMiss_22 rfl ?_
    refine Wk.iaload (mA_per) (by decide) (i' := 1) rfl (s3 q1) (s4 q1) o_findMiss_23 (y := ((A 0) v3)) rfl ?_
    refine Wk.idiv o_findMiss_24 (s5 q1) ?_
    refine Wk.istore o_findMiss_25 (Or.inl rfl) (L' := [.val (.ref 0), .val (.int v1), .val (.int v2), .val (.int v3), .val (.int ((F 3) / ((A 0) v3))), .unset, .unset, .unset]) rfl ?_
    refine Wk.iconst o_findMiss_27 (z := (0 : Int32)) (by decide) ?_
    refine Wk.istore o_findMiss_28 (Or.inl rfl) (L' := [.val (.ref 0), .val (.int v1), .val (.int v2), .val (.int v3), .val (.int ((F 3) / ((A 0) v3))), .val (.int (0 : Int32)), .unset, .unset]) rfl ?_
    exact (h6 q1)

set_option maxRecDepth 65536 in
set_option maxHeartbeats 4000000 in
theorem wp_findMiss_30 {l : Launch} {Z : State} {a0 : Array Value} (H : OK Z a0) (F : Nat → Int32) (G : Nat → Int64) (A : Nat → Int32 → Int32) (B : Nat → Int32 → Int64) (v1 : Int32) (v2 : Int32) (v3 : Int32) (v4 : Int32) (v5 : Int32) {Q : Option Value → WO → Prop} (h2 : ¬ v5 < v4 → Wk l Z (MoC Z cdC) md_findMiss 6 [.val (.ref 0), .val (.int v1), .val (.int v2), .val (.int (v3 + (1 : Int32))), .unset, .unset, .unset, .unset] [] (7, F, G, A, B) 0 0 Q) (h4 : v5 < v4 → ¬ v5 < (128 : Int32) → Wk l Z (MoC Z cdC) md_findMiss 6 [.val (.ref 0), .val (.int v1), .val (.int v2), .val (.int (v3 + (1 : Int32))), .unset, .unset, .unset, .unset] [] (7, F, G, A, B) 0 0 Q) (s5 : v5 < v4 → v5 < (128 : Int32) → ¬ ((v3 * (128 : Int32)) + v5) < 0) (s6 : v5 < v4 → v5 < (128 : Int32) → ((v3 * (128 : Int32)) + v5) < (1024 : Int32)) (s8 : v5 < v4 → v5 < (128 : Int32) → 0 < ((A 6) ((v3 * (128 : Int32)) + v5)) → ¬ v3 < 0) (s9 : v5 < v4 → v5 < (128 : Int32) → 0 < ((A 6) ((v3 * (128 : Int32)) + v5)) → v3 < (8 : Int32)) (h15 : v5 < v4 → v5 < (128 : Int32) → Wk l Z (MoC Z cdC) md_findMiss 30 [.val (.ref 0), .val (.int (if 0 < ((A 6) ((v3 * (128 : Int32)) + v5)) then (if v1 < 0 then ((v3 * (128 : Int32)) + v5) else (if ((v5 * ((A 0) v3)) + ((A 2) v3)) < v2 then ((v3 * (128 : Int32)) + v5) else v1)) else v1)), .val (.int (if 0 < ((A 6) ((v3 * (128 : Int32)) + v5)) then (if v1 < 0 then ((v5 * ((A 0) v3)) + ((A 2) v3)) else (if ((v5 * ((A 0) v3)) + ((A 2) v3)) < v2 then ((v5 * ((A 0) v3)) + ((A 2) v3)) else v2)) else v2)), .val (.int v3), .val (.int v4), .val (.int (v5 + (1 : Int32))), .unset, .unset] [] (7, F, G, A, B) 0 0 Q) :
    Wk l Z (MoC Z cdC) md_findMiss 30 [.val (.ref 0), .val (.int v1), .val (.int v2), .val (.int v3), .val (.int v4), .val (.int v5), .unset, .unset] [] (7, F, G, A, B) 0 0 Q := by
  refine Wk.iload o_findMiss_30 rfl ?_
  refine Wk.iload o_findMiss_32 rfl ?_
  refine Wk.icmp_ge o_findMiss_34 (fun q1 => ?_) (fun q1 => ?_)
  · refine Wk.iinc o_findMiss_108 rfl (z := (v3 + (1 : Int32))) rfl (L' := [.val (.ref 0), .val (.int v1), .val (.int v2), .val (.int (v3 + (1 : Int32))), .val (.int v4), .val (.int v5), .unset, .unset]) rfl ?_
    refine Wk.goto o_findMiss_111 ?_
    refine Wk.forget [false, false, false, false, true, true, false, false] (L' := [.val (.ref 0), .val (.int v1), .val (.int v2), .val (.int (v3 + (1 : Int32))), .unset, .unset, .unset, .unset]) rfl rfl ?_
    exact (h2 q1)
  · refine Wk.iload o_findMiss_37 rfl ?_
    refine Wk.sipush o_findMiss_39 (z := (128 : Int32)) (by decide) ?_
    refine Wk.icmp_ge o_findMiss_42 (fun q3 => ?_) (fun q3 => ?_)
    · refine Wk.iinc o_findMiss_108 rfl (z := (v3 + (1 : Int32))) rfl (L' := [.val (.ref 0), .val (.int v1), .val (.int v2), .val (.int (v3 + (1 : Int32))), .val (.int v4), .val (.int v5), .unset, .unset]) rfl ?_
      refine Wk.goto o_findMiss_111 ?_
      refine Wk.forget [false, false, false, false, true, true, false, false] (L' := [.val (.ref 0), .val (.int v1), .val (.int v2), .val (.int (v3 + (1 : Int32))), .unset, .unset, .unset, .unset]) rfl rfl ?_
      exact (h4 q1 q3)
    · refine Wk.iloadN o_findMiss_45 rfl ?_
      refine Wk.sipush o_findMiss_46 (z := (128 : Int32)) (by decide) ?_
      refine Wk.imul o_findMiss_49 ?_
      refine Wk.iload o_findMiss_50 rfl ?_
      refine Wk.iadd o_findMiss_52 ?_
      refine Wk.istore o_findMiss_53 (Or.inl rfl) (L' := [.val (.ref 0), .val (.int v1), .val (.int v2), .val (.int v3), .val (.int v4), .val (.int v5), .val (.int ((v3 * (128 : Int32)) + v5)), .unset]) rfl ?_
      refine Wk.aloadN o_findMiss_55 rfl ?_
      refine Wk.getA (mA_rem) (by decide) (i' := 7) rfl (wf_rem H) o_findMiss_56 ?_
      refine Wk.iload o_findMiss_59 rfl ?_
      refine Wk.iaload (mA_rem) (by decide) (i' := 7) rfl (s5 q1 q3) (s6 q1 q3) o_findMiss_61 (y := ((A 6) ((v3 * (128 : Int32)) + v5))) rfl ?_
      have J14 : Wk l Z (MoC Z cdC) md_findMiss 102 [.val (.ref 0), .val (.int (if 0 < ((A 6) ((v3 * (128 : Int32)) + v5)) then (if v1 < 0 then ((v3 * (128 : Int32)) + v5) else (if ((v5 * ((A 0) v3)) + ((A 2) v3)) < v2 then ((v3 * (128 : Int32)) + v5) else v1)) else v1)), .val (.int (if 0 < ((A 6) ((v3 * (128 : Int32)) + v5)) then (if v1 < 0 then ((v5 * ((A 0) v3)) + ((A 2) v3)) else (if ((v5 * ((A 0) v3)) + ((A 2) v3)) < v2 then ((v5 * ((A 0) v3)) + ((A 2) v3)) else v2)) else v2)), .val (.int v3), .val (.int v4), .val (.int v5), .val (.int ((v3 * (128 : Int32)) + v5)), .unset] [] (7, F, G, A, B) 0 0 Q := by
        refine Wk.iinc o_findMiss_102 rfl (z := (v5 + (1 : Int32))) rfl (L' := [.val (.ref 0), .val (.int (if 0 < ((A 6) ((v3 * (128 : Int32)) + v5)) then (if v1 < 0 then ((v3 * (128 : Int32)) + v5) else (if ((v5 * ((A 0) v3)) + ((A 2) v3)) < v2 then ((v3 * (128 : Int32)) + v5) else v1)) else v1)), .val (.int (if 0 < ((A 6) ((v3 * (128 : Int32)) + v5)) then (if v1 < 0 then ((v5 * ((A 0) v3)) + ((A 2) v3)) else (if ((v5 * ((A 0) v3)) + ((A 2) v3)) < v2 then ((v5 * ((A 0) v3)) + ((A 2) v3)) else v2)) else v2)), .val (.int v3), .val (.int v4), .val (.int (v5 + (1 : Int32))), .val (.int ((v3 * (128 : Int32)) + v5)), .unset]) rfl ?_
        refine Wk.goto o_findMiss_105 ?_
        refine Wk.forget [false, false, false, false, false, false, true, false] (L' := [.val (.ref 0), .val (.int (if 0 < ((A 6) ((v3 * (128 : Int32)) + v5)) then (if v1 < 0 then ((v3 * (128 : Int32)) + v5) else (if ((v5 * ((A 0) v3)) + ((A 2) v3)) < v2 then ((v3 * (128 : Int32)) + v5) else v1)) else v1)), .val (.int (if 0 < ((A 6) ((v3 * (128 : Int32)) + v5)) then (if v1 < 0 then ((v5 * ((A 0) v3)) + ((A 2) v3)) else (if ((v5 * ((A 0) v3)) + ((A 2) v3)) < v2 then ((v5 * ((A 0) v3)) + ((A 2) v3)) else v2)) else v2)), .val (.int v3), .val (.int v4), .val (.int (v5 + (1 : Int32))), .unset, .unset]) rfl rfl ?_
        exact (h15 q1 q3)
      refine Wk.if_gt o_findMiss_62 (fun q7 => ?_) (fun q7 => ?_)
      · refine Wk.iload o_findMiss_68 rfl ?_
        refine Wk.aloadN o_findMiss_70 rfl ?_
        refine Wk.getA (mA_per) (by decide) (i' := 1) rfl (wf_per H) o_findMiss_71 ?_
        refine Wk.iloadN o_findMiss_74 rfl ?_
        refine Wk.iaload (mA_per) (by decide) (i' := 1) rfl (s8 q1 q3 q7) (s9 q1 q3 q7) o_findMiss_75 (y := ((A 0) v3)) rfl ?_
        refine Wk.imul o_findMiss_76 ?_
        refine Wk.aloadN o_findMiss_77 rfl ?_
        refine Wk.getA (mA_dl) (by decide) (i' := 3) rfl (wf_dl H) o_findMiss_78 ?_
        refine Wk.iloadN o_findMiss_81 rfl ?_
        refine Wk.iaload (mA_dl) (by decide) (i' := 3) rfl (s8 q1 q3 q7) (s9 q1 q3 q7) o_findMiss_82 (y := ((A 2) v3)) rfl ?_
        refine Wk.iadd o_findMiss_83 ?_
        refine Wk.istore o_findMiss_84 (Or.inl rfl) (L' := [.val (.ref 0), .val (.int v1), .val (.int v2), .val (.int v3), .val (.int v4), .val (.int v5), .val (.int ((v3 * (128 : Int32)) + v5)), .val (.int ((v5 * ((A 0) v3)) + ((A 2) v3)))]) rfl ?_
        refine Wk.iloadN o_findMiss_86 rfl ?_
        refine Wk.if_lt o_findMiss_87 (fun q10 => ?_) (fun q10 => ?_)
        · refine Wk.iload o_findMiss_96 rfl ?_
          refine Wk.istoreN o_findMiss_98 (Or.inr ⟨_, rfl, rfl⟩) (L' := [.val (.ref 0), .val (.int ((v3 * (128 : Int32)) + v5)), .val (.int v2), .val (.int v3), .val (.int v4), .val (.int v5), .val (.int ((v3 * (128 : Int32)) + v5)), .val (.int ((v5 * ((A 0) v3)) + ((A 2) v3)))]) rfl ?_
          refine Wk.iload o_findMiss_99 rfl ?_
          refine Wk.istoreN o_findMiss_101 (Or.inr ⟨_, rfl, rfl⟩) (L' := [.val (.ref 0), .val (.int ((v3 * (128 : Int32)) + v5)), .val (.int ((v5 * ((A 0) v3)) + ((A 2) v3))), .val (.int v3), .val (.int v4), .val (.int v5), .val (.int ((v3 * (128 : Int32)) + v5)), .val (.int ((v5 * ((A 0) v3)) + ((A 2) v3)))]) rfl ?_
          refine Wk.forget [false, false, false, false, false, false, false, true] (L' := [.val (.ref 0), .val (.int ((v3 * (128 : Int32)) + v5)), .val (.int ((v5 * ((A 0) v3)) + ((A 2) v3))), .val (.int v3), .val (.int v4), .val (.int v5), .val (.int ((v3 * (128 : Int32)) + v5)), .unset]) rfl rfl ?_
          first | (rw [show ((if 0 < ((A 6) ((v3 * (128 : Int32)) + v5)) then (if v1 < 0 then ((v3 * (128 : Int32)) + v5) else (if ((v5 * ((A 0) v3)) + ((A 2) v3)) < v2 then ((v3 * (128 : Int32)) + v5) else v1)) else v1) : Int32) = ((v3 * (128 : Int32)) + v5) from Eq.trans (if_pos q7) <| if_pos q10, show ((if 0 < ((A 6) ((v3 * (128 : Int32)) + v5)) then (if v1 < 0 then ((v5 * ((A 0) v3)) + ((A 2) v3)) else (if ((v5 * ((A 0) v3)) + ((A 2) v3)) < v2 then ((v5 * ((A 0) v3)) + ((A 2) v3)) else v2)) else v2) : Int32) = ((v5 * ((A 0) v3)) + ((A 2) v3)) from Eq.trans (if_pos q7) <| if_pos q10] at J14; exact J14) | exact J14 | (simp only [if_pos q7, if_pos q10] at J14 ⊢; exact J14)
        · refine Wk.iload o_findMiss_90 rfl ?_
          refine Wk.iloadN o_findMiss_92 rfl ?_
          refine Wk.icmp_ge o_findMiss_93 (fun q11 => ?_) (fun q11 => ?_)
          · refine Wk.forget [false, false, false, false, false, false, false, true] (L' := [.val (.ref 0), .val (.int v1), .val (.int v2), .val (.int v3), .val (.int v4), .val (.int v5), .val (.int ((v3 * (128 : Int32)) + v5)), .unset]) rfl rfl ?_
            first | (rw [show ((if 0 < ((A 6) ((v3 * (128 : Int32)) + v5)) then (if v1 < 0 then ((v3 * (128 : Int32)) + v5) else (if ((v5 * ((A 0) v3)) + ((A 2) v3)) < v2 then ((v3 * (128 : Int32)) + v5) else v1)) else v1) : Int32) = v1 from Eq.trans (if_pos q7) <| Eq.trans (if_neg q10) <| if_neg q11, show ((if 0 < ((A 6) ((v3 * (128 : Int32)) + v5)) then (if v1 < 0 then ((v5 * ((A 0) v3)) + ((A 2) v3)) else (if ((v5 * ((A 0) v3)) + ((A 2) v3)) < v2 then ((v5 * ((A 0) v3)) + ((A 2) v3)) else v2)) else v2) : Int32) = v2 from Eq.trans (if_pos q7) <| Eq.trans (if_neg q10) <| if_neg q11] at J14; exact J14) | exact J14 | (simp only [if_pos q7, if_neg q10, if_neg q11] at J14 ⊢; exact J14)
          · refine Wk.iload o_findMiss_96 rfl ?_
            refine Wk.istoreN o_findMiss_98 (Or.inr ⟨_, rfl, rfl⟩) (L' := [.val (.ref 0), .val (.int ((v3 * (128 : Int32)) + v5)), .val (.int v2), .val (.int v3), .val (.int v4), .val (.int v5), .val (.int ((v3 * (128 : Int32)) + v5)), .val (.int ((v5 * ((A 0) v3)) + ((A 2) v3)))]) rfl ?_
            refine Wk.iload o_findMiss_99 rfl ?_
            refine Wk.istoreN o_findMiss_101 (Or.inr ⟨_, rfl, rfl⟩) (L' := [.val (.ref 0), .val (.int ((v3 * (128 : Int32)) + v5)), .val (.int ((v5 * ((A 0) v3)) + ((A 2) v3))), .val (.int v3), .val (.int v4), .val (.int v5), .val (.int ((v3 * (128 : Int32)) + v5)), .val (.int ((v5 * ((A 0) v3)) + ((A 2) v3)))]) rfl ?_
            refine Wk.forget [false, false, false, false, false, false, false, true] (L' := [.val (.ref 0), .val (.int ((v3 * (128 : Int32)) + v5)), .val (.int ((v5 * ((A 0) v3)) + ((A 2) v3))), .val (.int v3), .val (.int v4), .val (.int v5), .val (.int ((v3 * (128 : Int32)) + v5)), .unset]) rfl rfl ?_
            first | (rw [show ((if 0 < ((A 6) ((v3 * (128 : Int32)) + v5)) then (if v1 < 0 then ((v3 * (128 : Int32)) + v5) else (if ((v5 * ((A 0) v3)) + ((A 2) v3)) < v2 then ((v3 * (128 : Int32)) + v5) else v1)) else v1) : Int32) = ((v3 * (128 : Int32)) + v5) from Eq.trans (if_pos q7) <| Eq.trans (if_neg q10) <| if_pos q11, show ((if 0 < ((A 6) ((v3 * (128 : Int32)) + v5)) then (if v1 < 0 then ((v5 * ((A 0) v3)) + ((A 2) v3)) else (if ((v5 * ((A 0) v3)) + ((A 2) v3)) < v2 then ((v5 * ((A 0) v3)) + ((A 2) v3)) else v2)) else v2) : Int32) = ((v5 * ((A 0) v3)) + ((A 2) v3)) from Eq.trans (if_pos q7) <| Eq.trans (if_neg q10) <| if_pos q11] at J14; exact J14) | exact J14 | (simp only [if_pos q7, if_neg q10, if_pos q11] at J14 ⊢; exact J14)
      · refine Wk.goto o_findMiss_65 ?_
        first | (rw [show ((if 0 < ((A 6) ((v3 * (128 : Int32)) + v5)) then (if v1 < 0 then ((v3 * (128 : Int32)) + v5) else (if ((v5 * ((A 0) v3)) + ((A 2) v3)) < v2 then ((v3 * (128 : Int32)) + v5) else v1)) else v1) : Int32) = v1 from if_neg q7, show ((if 0 < ((A 6) ((v3 * (128 : Int32)) + v5)) then (if v1 < 0 then ((v5 * ((A 0) v3)) + ((A 2) v3)) else (if ((v5 * ((A 0) v3)) + ((A 2) v3)) < v2 then ((v5 * ((A 0) v3)) + ((A 2) v3)) else v2)) else v2) : Int32) = v2 from if_neg q7] at J14; exact J14) | exact J14 | (simp only [if_neg q7] at J14 ⊢; exact J14)

theorem rt_findMiss (F : Nat → Int32) (G : Nat → Int64) (A : Nat → Int32 → Int32) (B : Nat → Int32 → Int64) (v0 : Int32) (r : Int32) (e : v0 = r) : some (Value.int v0) = some (.int r) ∧ (7, F, G, A, B) = (7, F, G, A, B) := by subst e; exact ⟨rfl, rfl⟩
def lp_findMiss : Nat → Nat → Int32 → Int32 → Int32 → Int32 → Int32 → (Nat → Int32) → (Nat → Int32 → Int32) → Option (Int32)
  | 0, _, _, _, _, _, _, _, _ => none
  | n + 1, tag, v1, v2, v3, v4, v5, F, A => if tag = 6 then (if v3 < (F 2) then (if (¬ v3 < 0) ∧ (v3 < (8 : Int32)) ∧ (¬ ((A 0) v3) = (0 : Int32)) then lp_findMiss n 30 v1 v2 v3 ((F 3) / ((A 0) v3)) (0 : Int32) F A else none) else some (v1)) else if tag = 30 then (if v5 < v4 then (if v5 < (128 : Int32) then (if (¬ ((v3 * (128 : Int32)) + v5) < 0) ∧ (((v3 * (128 : Int32)) + v5) < (1024 : Int32)) ∧ (0 < ((A 6) ((v3 * (128 : Int32)) + v5)) → ¬ v3 < 0) ∧ (0 < ((A 6) ((v3 * (128 : Int32)) + v5)) → v3 < (8 : Int32)) then lp_findMiss n 30 (if 0 < ((A 6) ((v3 * (128 : Int32)) + v5)) then (if v1 < 0 then ((v3 * (128 : Int32)) + v5) else (if ((v5 * ((A 0) v3)) + ((A 2) v3)) < v2 then ((v3 * (128 : Int32)) + v5) else v1)) else v1) (if 0 < ((A 6) ((v3 * (128 : Int32)) + v5)) then (if v1 < 0 then ((v5 * ((A 0) v3)) + ((A 2) v3)) else (if ((v5 * ((A 0) v3)) + ((A 2) v3)) < v2 then ((v5 * ((A 0) v3)) + ((A 2) v3)) else v2)) else v2) v3 v4 (v5 + (1 : Int32)) F A else none) else lp_findMiss n 6 v1 v2 (v3 + (1 : Int32)) 0 0 F A) else lp_findMiss n 6 v1 v2 (v3 + (1 : Int32)) 0 0 F A) else none
theorem lp_findMiss_z (tag : Nat) (v1 : Int32) (v2 : Int32) (v3 : Int32) (v4 : Int32) (v5 : Int32) (F : Nat → Int32) (A : Nat → Int32 → Int32) : lp_findMiss 0 tag v1 v2 v3 v4 v5 F A = none := Eq.trans rfl rfl
theorem lp_findMiss_6 (n : Nat) (v1 : Int32) (v2 : Int32) (v3 : Int32) (v4 : Int32) (v5 : Int32) (F : Nat → Int32) (A : Nat → Int32 → Int32) : lp_findMiss (n + 1) 6 v1 v2 v3 v4 v5 F A = (if v3 < (F 2) then (if (¬ v3 < 0) ∧ (v3 < (8 : Int32)) ∧ (¬ ((A 0) v3) = (0 : Int32)) then lp_findMiss n 30 v1 v2 v3 ((F 3) / ((A 0) v3)) (0 : Int32) F A else none) else some (v1)) := by
  rw [lp_findMiss, if_pos rfl]
theorem lp_findMiss_30 (n : Nat) (v1 : Int32) (v2 : Int32) (v3 : Int32) (v4 : Int32) (v5 : Int32) (F : Nat → Int32) (A : Nat → Int32 → Int32) : lp_findMiss (n + 1) 30 v1 v2 v3 v4 v5 F A = (if v5 < v4 then (if v5 < (128 : Int32) then (if (¬ ((v3 * (128 : Int32)) + v5) < 0) ∧ (((v3 * (128 : Int32)) + v5) < (1024 : Int32)) ∧ (0 < ((A 6) ((v3 * (128 : Int32)) + v5)) → ¬ v3 < 0) ∧ (0 < ((A 6) ((v3 * (128 : Int32)) + v5)) → v3 < (8 : Int32)) then lp_findMiss n 30 (if 0 < ((A 6) ((v3 * (128 : Int32)) + v5)) then (if v1 < 0 then ((v3 * (128 : Int32)) + v5) else (if ((v5 * ((A 0) v3)) + ((A 2) v3)) < v2 then ((v3 * (128 : Int32)) + v5) else v1)) else v1) (if 0 < ((A 6) ((v3 * (128 : Int32)) + v5)) then (if v1 < 0 then ((v5 * ((A 0) v3)) + ((A 2) v3)) else (if ((v5 * ((A 0) v3)) + ((A 2) v3)) < v2 then ((v5 * ((A 0) v3)) + ((A 2) v3)) else v2)) else v2) v3 v4 (v5 + (1 : Int32)) F A else none) else lp_findMiss n 6 v1 v2 (v3 + (1 : Int32)) 0 0 F A) else lp_findMiss n 6 v1 v2 (v3 + (1 : Int32)) 0 0 F A) := by
  rw [lp_findMiss, if_neg (by decide), if_pos rfl]
set_option maxRecDepth 65536 in
set_option maxHeartbeats 4000000 in
theorem lpw_findMiss {l : Launch} {Z : State} {a0 : Array Value} (H : OK Z a0) (F : Nat → Int32) (G : Nat → Int64) (A : Nat → Int32 → Int32) (B : Nat → Int32 → Int64) : ∀ (n : Nat) (v1 : Int32) (v2 : Int32) (v3 : Int32) (v4 : Int32) (v5 : Int32) (r : Int32), (lp_findMiss n 6 v1 v2 v3 v4 v5 F A = some r → Wk l Z (MoC Z cdC) md_findMiss 6 [.val (.ref 0), .val (.int v1), .val (.int v2), .val (.int v3), .unset, .unset, .unset, .unset] [] (7, F, G, A, B) 0 0 (fun v w' => v = some (.int r) ∧ w' = (7, F, G, A, B))) ∧ (lp_findMiss n 30 v1 v2 v3 v4 v5 F A = some r → Wk l Z (MoC Z cdC) md_findMiss 30 [.val (.ref 0), .val (.int v1), .val (.int v2), .val (.int v3), .val (.int v4), .val (.int v5), .unset, .unset] [] (7, F, G, A, B) 0 0 (fun v w' => v = some (.int r) ∧ w' = (7, F, G, A, B))) := by
  intro n
  induction n with
  | zero =>
    intro v1 v2 v3 v4 v5  r
    exact ⟨(fun h => by rw [lp_findMiss_z] at h; cases h), (fun h => by rw [lp_findMiss_z] at h; cases h)⟩
  | succ n ih =>
    intro v1 v2 v3 v4 v5  r
    refine ⟨fun h => ?_, fun h => ?_⟩
    · rw [lp_findMiss_6] at h
      exact wp_findMiss_6 H F G A B v1 v2 v3 (fun q1 => (rt_findMiss _ _ _ _ _ r (Option.some.inj (ifn q1 h)))) (fun q1 => (gd (ifp q1 h)).1.1) (fun q1 => (gd (ifp q1 h)).1.2.1) (fun q1 => (gd (ifp q1 h)).1.2.2) (fun q1 => (ih _ _ _ _ _ _).2 (gd (ifp q1 h)).2)
    · rw [lp_findMiss_30] at h
      exact wp_findMiss_30 H F G A B v1 v2 v3 v4 v5 (fun q1 => (ih _ _ _ _ _ _).1 (ifn q1 h)) (fun q1 q3 => (ih _ _ _ _ _ _).1 (ifn q3 (ifp q1 h))) (fun q1 q3 => (gd (ifp q3 (ifp q1 h))).1.1) (fun q1 q3 => (gd (ifp q3 (ifp q1 h))).1.2.1) (fun q1 q3 q7 => ((gd (ifp q3 (ifp q1 h))).1.2.2.1) q7) (fun q1 q3 q7 => ((gd (ifp q3 (ifp q1 h))).1.2.2.2) q7) (fun q1 q3 => (ih _ _ _ _ _ _).2 (gd (ifp q3 (ifp q1 h))).2)
def en_findMiss (F : Nat → Int32) (A : Nat → Int32 → Int32) : Option (Int32) := lp_findMiss 5000 6 (-1 : Int32) (0 : Int32) (0 : Int32) 0 0 F A
theorem een_findMiss (F : Nat → Int32) (A : Nat → Int32 → Int32) : en_findMiss F A  = lp_findMiss 5000 6 (-1 : Int32) (0 : Int32) (0 : Int32) 0 0 F A := Eq.trans rfl rfl
def R_findMiss (F : Nat → Int32) (A : Nat → Int32 → Int32) : Int32 := (en_findMiss F A ).getD (0)
theorem eR_findMiss (F : Nat → Int32) (A : Nat → Int32 → Int32) : R_findMiss F A  = (en_findMiss F A ).getD (0) := Eq.trans rfl rfl
set_option maxRecDepth 65536 in
set_option maxHeartbeats 4000000 in
theorem run_findMiss {l : Launch} {Z : State} {a0 : Array Value} (H : OK Z a0) (F : Nat → Int32) (G : Nat → Int64) (A : Nat → Int32 → Int32) (B : Nat → Int32 → Int64) (e1 : (en_findMiss F A ).isSome = true) :
    Wk l Z (MoC Z cdC) md_findMiss 0 [.val (.ref 0), .unset, .unset, .unset, .unset, .unset, .unset, .unset] [] (7, F, G, A, B) 0 0 (fun v w' => v = some (.int (R_findMiss F A )) ∧ w' = (7, F, G, A, B)) := by
  obtain ⟨r, h⟩ := Option.isSome_iff_exists.mp e1
  have e : R_findMiss F A  = r := (eR_findMiss F A ).trans (getD_some h)
  rw [e]
  rw [een_findMiss] at h
  exact wp_findMiss H F G A B  ((lpw_findMiss H F G A B _ _ _ _ _ _ _).1 h)
set_option maxRecDepth 65536 in
set_option maxHeartbeats 4000000 in
theorem wp_build {l : Launch} {Z : State} {a0 : Array Value} (H : OK Z a0) (F : Nat → Int32) (G : Nat → Int64) (A : Nat → Int32 → Int32) (B : Nat → Int32 → Int64) (p1 : Int32) {Q : Option Value → WO → Prop} (s2 : ¬ (F 2) = 0 → (en_dividesHyper F p1).isSome = true) (s4 : ¬ (F 2) = 0 → ¬ (R_dividesHyper F p1) = 0 → (en_deadlinesOk F A p1).isSome = true) (s6 : ¬ (F 2) = 0 → ¬ (R_dividesHyper F p1) = 0 → ¬ (R_deadlinesOk F A p1) = 0 → (en_initJobs F A ).isSome = true) (h7 : ¬ (F 2) = 0 → ¬ (R_dividesHyper F p1) = 0 → ¬ (R_deadlinesOk F A p1) = 0 → Wk l Z (MoC Z cdC) md_build 38 [.val (.ref 0), .val (.int p1), .val (.int (0 : Int32)), .unset] [] (7, F, G, (R_initJobs F A ).2, B) 0 0 Q) (h8 : ¬ (F 2) = 0 → ¬ (R_dividesHyper F p1) = 0 → (R_deadlinesOk F A p1) = 0 → Q (some (.int (-6 : Int32))) (7, F, G, A, B)) (h9 : ¬ (F 2) = 0 → (R_dividesHyper F p1) = 0 → Q (some (.int (-5 : Int32))) (7, F, G, A, B)) (h10 : (F 2) = 0 → Q (some (.int (-4 : Int32))) (7, F, G, A, B)) :
    Wk l Z (MoC Z cdC) md_build 0 [.val (.ref 0), .val (.int p1), .unset, .unset] [] (7, F, G, A, B) 0 0 Q := by
  refine Wk.aloadN o_build_0 rfl ?_
  refine Wk.getI (mI_count) (wf_count H) o_build_1 (x := (F 2)) rfl ?_
  refine Wk.if_ne o_build_4 (fun q1 => ?_) (fun q1 => ?_)
  · refine Wk.aloadN o_build_10 rfl ?_
    refine Wk.iloadN o_build_11 rfl ?_
    refine Wk.callF [.int p1] [] (H.w 73 rfl) (cv_dividesHyper H) o_build_12 (run_dividesHyper H F G A B p1 (s2 q1)) (wt := 0) (cu' := 0) (su' := 0) (by decide) rfl rfl rfl rfl rfl rfl rfl ?_
    refine Wk.if_ne o_build_15 (fun q3 => ?_) (fun q3 => ?_)
    · refine Wk.aloadN o_build_21 rfl ?_
      refine Wk.iloadN o_build_22 rfl ?_
      refine Wk.callF [.int p1] [] (H.w 77 rfl) (cv_deadlinesOk H) o_build_23 (run_deadlinesOk H F G A B p1 (s4 q1 q3)) (wt := 0) (cu' := 0) (su' := 0) (by decide) rfl rfl rfl rfl rfl rfl rfl ?_
      refine Wk.if_ne o_build_26 (fun q5 => ?_) (fun q5 => ?_)
      · refine Wk.aloadN o_build_32 rfl ?_
        refine Wk.callU [] [] (H.w 81 rfl) (cv_initJobs H) o_build_33 (run_initJobs H F G A B (s6 q1 q3 q5)) (wt := 0) (cu' := 0) (su' := 0) (by decide) rfl rfl rfl rfl rfl rfl rfl ?_
        refine Wk.iconst o_build_36 (z := (0 : Int32)) (by decide) ?_
        refine Wk.istoreN o_build_37 (Or.inl rfl) (L' := [.val (.ref 0), .val (.int p1), .val (.int (0 : Int32)), .unset]) rfl ?_
        exact (h7 q1 q3 q5)
      · refine Wk.bipush o_build_29 (z := (-6 : Int32)) (by decide) ?_
        exact Wk.ireturn mrC rfl o_build_31 rfl (by decide) (by decide) (h8 q1 q3 q5)
    · refine Wk.bipush o_build_18 (z := (-5 : Int32)) (by decide) ?_
      exact Wk.ireturn mrC rfl o_build_20 rfl (by decide) (by decide) (h9 q1 q3)
  · refine Wk.bipush o_build_7 (z := (-4 : Int32)) (by decide) ?_
    exact Wk.ireturn mrC rfl o_build_9 rfl (by decide) (by decide) (h10 q1)

set_option maxRecDepth 65536 in
set_option maxHeartbeats 4000000 in
theorem wp_build_38 {l : Launch} {Z : State} {a0 : Array Value} (H : OK Z a0) (F : Nat → Int32) (G : Nat → Int64) (A : Nat → Int32 → Int32) (B : Nat → Int32 → Int64) (v1 : Int32) (v2 : Int32) {Q : Option Value → WO → Prop} (s2 : ¬ v2 < (128 : Int32) → ¬ v1 = (0 : Int32)) (h3 : ¬ v2 < (128 : Int32) → Wk l Z (MoC Z cdC) md_build 74 [.val (.ref 0), .val (.int v1), .val (.int ((F 3) / v1)), .val (.int (0 : Int32))] [] (7, F, G, A, B) 0 0 Q) (s4 : v2 < (128 : Int32) → ¬ v2 < 0) (h5 : v2 < (128 : Int32) → Wk l Z (MoC Z cdC) md_build 38 [.val (.ref 0), .val (.int v1), .val (.int (v2 + (1 : Int32))), .unset] [] (7, F, G, (ups (ups A 4 (ups (A 4) v2 (-1 : Int32))) 5 (ups (A 5) v2 (-1 : Int32))), B) 0 0 Q) :
    Wk l Z (MoC Z cdC) md_build 38 [.val (.ref 0), .val (.int v1), .val (.int v2), .unset] [] (7, F, G, A, B) 0 0 Q := by
  refine Wk.iloadN o_build_38 rfl ?_
  refine Wk.sipush o_build_39 (z := (128 : Int32)) (by decide) ?_
  refine Wk.icmp_ge o_build_42 (fun q1 => ?_) (fun q1 => ?_)
  · refine Wk.aloadN o_build_65 rfl ?_
    refine Wk.getI (mI_hyper) (wf_hyper H) o_build_66 (x := (F 3)) rfl ?_
    refine Wk.iloadN o_build_69 rfl ?_
    refine Wk.idiv o_build_70 (s2 q1) ?_
    refine Wk.istoreN o_build_71 (Or.inr ⟨_, rfl, rfl⟩) (L' := [.val (.ref 0), .val (.int v1), .val (.int ((F 3) / v1)), .unset]) rfl ?_
    refine Wk.iconst o_build_72 (z := (0 : Int32)) (by decide) ?_
    refine Wk.istoreN o_build_73 (Or.inl rfl) (L' := [.val (.ref 0), .val (.int v1), .val (.int ((F 3) / v1)), .val (.int (0 : Int32))]) rfl ?_
    exact (h3 q1)
  · refine Wk.aloadN o_build_45 rfl ?_
    refine Wk.getA (mA_tickTask) (by decide) (i' := 5) rfl (wf_tickTask H) o_build_46 ?_
    refine Wk.iloadN o_build_49 rfl ?_
    refine Wk.iconst o_build_50 (z := (-1 : Int32)) (by decide) ?_
    refine Wk.iastore (coC H) (f := (A 4)) (mA_tickTask) rfl (by decide) (i' := 5) rfl (s4 q1) q1 o_build_51 ?_
    refine Wk.aloadN o_build_52 rfl ?_
    refine Wk.getA (mA_tickJob) (by decide) (i' := 6) rfl (wf_tickJob H) o_build_53 ?_
    refine Wk.iloadN o_build_56 rfl ?_
    refine Wk.iconst o_build_57 (z := (-1 : Int32)) (by decide) ?_
    refine Wk.iastore (coC H) (f := (A 5)) (mA_tickJob) rfl (by decide) (i' := 6) rfl (s4 q1) q1 o_build_58 ?_
    refine Wk.iinc o_build_59 rfl (z := (v2 + (1 : Int32))) rfl (L' := [.val (.ref 0), .val (.int v1), .val (.int (v2 + (1 : Int32))), .unset]) rfl ?_
    refine Wk.goto o_build_62 ?_
    exact (h5 q1)

set_option maxRecDepth 65536 in
set_option maxHeartbeats 4000000 in
theorem wp_build_74 {l : Launch} {Z : State} {a0 : Array Value} (H : OK Z a0) (F : Nat → Int32) (G : Nat → Int64) (A : Nat → Int32 → Int32) (B : Nat → Int32 → Int64) (v1 : Int32) (v2 : Int32) (v3 : Int32) {Q : Option Value → WO → Prop} (s2 : ¬ v3 < v2 → (en_findMiss F A ).isSome = true) (s3 : ¬ v3 < v2 → (en_resetDispatcher F A ).isSome = true) (h5 : ¬ v3 < v2 → (R_findMiss F A ) < 0 → Q (some (.int (0 : Int32))) (7, (ups (ups (ups (R_resetDispatcher F A ).2.1 4 (1 : Int32)) 5 v1) 6 (-1 : Int32)), G, (R_resetDispatcher F A ).2.2, B)) (h6 : ¬ v3 < v2 → ¬ (R_findMiss F A ) < 0 → Q (some (.int (-7 : Int32))) (7, (ups (ups (ups (R_resetDispatcher F A ).2.1 4 (0 : Int32)) 5 (0 : Int32)) 6 (R_findMiss F A )), G, (R_resetDispatcher F A ).2.2, B)) (s7 : v3 < v2 → (en_fillFrame F A v3 v1).isSome = true) (h8 : v3 < v2 → Wk l Z (MoC Z cdC) md_build 74 [.val (.ref 0), .val (.int v1), .val (.int v2), .val (.int (v3 + (1 : Int32)))] [] (7, F, G, (R_fillFrame F A v3 v1).2, B) 0 0 Q) :
    Wk l Z (MoC Z cdC) md_build 74 [.val (.ref 0), .val (.int v1), .val (.int v2), .val (.int v3)] [] (7, F, G, A, B) 0 0 Q := by
  refine Wk.iloadN o_build_74 rfl ?_
  refine Wk.iloadN o_build_75 rfl ?_
  refine Wk.icmp_ge o_build_76 (fun q1 => ?_) (fun q1 => ?_)
  · refine Wk.aloadN o_build_91 rfl ?_
    refine Wk.callF [] [] (H.w 93 rfl) (cv_findMiss H) o_build_92 (run_findMiss H F G A B (s2 q1)) (wt := 0) (cu' := 0) (su' := 0) (by decide) rfl rfl rfl rfl rfl rfl rfl ?_
    refine Wk.istoreN o_build_95 (Or.inr ⟨_, rfl, rfl⟩) (L' := [.val (.ref 0), .val (.int v1), .val (.int v2), .val (.int (R_findMiss F A ))]) rfl ?_
    refine Wk.aloadN o_build_96 rfl ?_
    refine Wk.callU [] [] (H.w 64 rfl) (cv_resetDispatcher H) o_build_97 (run_resetDispatcher H F G A B (s3 q1)) (wt := 0) (cu' := 0) (su' := 0) (by decide) rfl rfl rfl rfl rfl rfl rfl ?_
    refine Wk.iloadN o_build_100 rfl ?_
    refine Wk.if_lt o_build_101 (fun q4 => ?_) (fun q4 => ?_)
    · refine Wk.aloadN o_build_122 rfl ?_
      refine Wk.iconst o_build_123 (z := (1 : Int32)) (by decide) ?_
      refine Wk.putZ (coC H) (y := (1 : Int32)) (by decide) (mI_present) (wf_present H) (Or.inl (wy_present H)) o_build_124 ?_
      refine Wk.aloadN o_build_127 rfl ?_
      refine Wk.iloadN o_build_128 rfl ?_
      refine Wk.putI (coC H) (mI_frame) (wf_frame H) (Or.inl (wy_frame H)) o_build_129 ?_
      refine Wk.aloadN o_build_132 rfl ?_
      refine Wk.iconst o_build_133 (z := (-1 : Int32)) (by decide) ?_
      refine Wk.putI (coC H) (mI_miss) (wf_miss H) (Or.inl (wy_miss H)) o_build_134 ?_
      refine Wk.iconst o_build_137 (z := (0 : Int32)) (by decide) ?_
      exact Wk.ireturn mrC rfl o_build_138 rfl (by decide) (by decide) (h5 q1 q4)
    · refine Wk.aloadN o_build_104 rfl ?_
      refine Wk.iconst o_build_105 (z := (0 : Int32)) (by decide) ?_
      refine Wk.putZ (coC H) (y := (0 : Int32)) (by decide) (mI_present) (wf_present H) (Or.inl (wy_present H)) o_build_106 ?_
      refine Wk.aloadN o_build_109 rfl ?_
      refine Wk.iconst o_build_110 (z := (0 : Int32)) (by decide) ?_
      refine Wk.putI (coC H) (mI_frame) (wf_frame H) (Or.inl (wy_frame H)) o_build_111 ?_
      refine Wk.aloadN o_build_114 rfl ?_
      refine Wk.iloadN o_build_115 rfl ?_
      refine Wk.putI (coC H) (mI_miss) (wf_miss H) (Or.inl (wy_miss H)) o_build_116 ?_
      refine Wk.bipush o_build_119 (z := (-7 : Int32)) (by decide) ?_
      exact Wk.ireturn mrC rfl o_build_121 rfl (by decide) (by decide) (h6 q1 q4)
  · refine Wk.aloadN o_build_79 rfl ?_
    refine Wk.iloadN o_build_80 rfl ?_
    refine Wk.iloadN o_build_81 rfl ?_
    refine Wk.callU [.int v3, .int v1] [] (H.w 85 rfl) (cv_fillFrame H) o_build_82 (run_fillFrame H F G A B v3 v1 (s7 q1)) (wt := 0) (cu' := 0) (su' := 0) (by decide) rfl rfl rfl rfl rfl rfl rfl ?_
    refine Wk.iinc o_build_85 rfl (z := (v3 + (1 : Int32))) rfl (L' := [.val (.ref 0), .val (.int v1), .val (.int v2), .val (.int (v3 + (1 : Int32)))]) rfl ?_
    refine Wk.goto o_build_88 ?_
    exact (h8 q1)

theorem rt_build (G : Nat → Int64) (B : Nat → Int32 → Int64) (v0 : Int32) (xF : Nat → Int32) (xA : Nat → Int32 → Int32) (r : Int32 × (Nat → Int32) × (Nat → Int32 → Int32)) (e : (v0, xF, xA) = r) : some (Value.int v0) = some (.int r.1) ∧ (7, xF, G, xA, B) = (7, r.2.1, G, r.2.2, B) := by subst e; exact ⟨rfl, rfl⟩
def lp_build : Nat → Nat → Int32 → Int32 → Int32 → (Nat → Int32) → (Nat → Int32 → Int32) → Option (Int32 × (Nat → Int32) × (Nat → Int32 → Int32))
  | 0, _, _, _, _, _, _ => none
  | n + 1, tag, v1, v2, v3, F, A => if tag = 38 then (if v2 < (128 : Int32) then (if (¬ v2 < 0) then lp_build n 38 v1 (v2 + (1 : Int32)) 0 F (ups (ups A 4 (ups (A 4) v2 (-1 : Int32))) 5 (ups (A 5) v2 (-1 : Int32))) else none) else (if (¬ v1 = (0 : Int32)) then lp_build n 74 v1 ((F 3) / v1) (0 : Int32) F A else none)) else if tag = 74 then (if v3 < v2 then (if ((en_fillFrame F A v3 v1).isSome = true) then lp_build n 74 v1 v2 (v3 + (1 : Int32)) F (R_fillFrame F A v3 v1).2 else none) else (if ((en_findMiss F A ).isSome = true) ∧ ((en_resetDispatcher F A ).isSome = true) then (if (R_findMiss F A ) < 0 then some ((0 : Int32), (ups (ups (ups (R_resetDispatcher F A ).2.1 4 (1 : Int32)) 5 v1) 6 (-1 : Int32)), (R_resetDispatcher F A ).2.2) else some ((-7 : Int32), (ups (ups (ups (R_resetDispatcher F A ).2.1 4 (0 : Int32)) 5 (0 : Int32)) 6 (R_findMiss F A )), (R_resetDispatcher F A ).2.2)) else none)) else none
theorem lp_build_z (tag : Nat) (v1 : Int32) (v2 : Int32) (v3 : Int32) (F : Nat → Int32) (A : Nat → Int32 → Int32) : lp_build 0 tag v1 v2 v3 F A = none := Eq.trans rfl rfl
theorem lp_build_38 (n : Nat) (v1 : Int32) (v2 : Int32) (v3 : Int32) (F : Nat → Int32) (A : Nat → Int32 → Int32) : lp_build (n + 1) 38 v1 v2 v3 F A = (if v2 < (128 : Int32) then (if (¬ v2 < 0) then lp_build n 38 v1 (v2 + (1 : Int32)) 0 F (ups (ups A 4 (ups (A 4) v2 (-1 : Int32))) 5 (ups (A 5) v2 (-1 : Int32))) else none) else (if (¬ v1 = (0 : Int32)) then lp_build n 74 v1 ((F 3) / v1) (0 : Int32) F A else none)) := by
  rw [lp_build, if_pos rfl]
theorem lp_build_74 (n : Nat) (v1 : Int32) (v2 : Int32) (v3 : Int32) (F : Nat → Int32) (A : Nat → Int32 → Int32) : lp_build (n + 1) 74 v1 v2 v3 F A = (if v3 < v2 then (if ((en_fillFrame F A v3 v1).isSome = true) then lp_build n 74 v1 v2 (v3 + (1 : Int32)) F (R_fillFrame F A v3 v1).2 else none) else (if ((en_findMiss F A ).isSome = true) ∧ ((en_resetDispatcher F A ).isSome = true) then (if (R_findMiss F A ) < 0 then some ((0 : Int32), (ups (ups (ups (R_resetDispatcher F A ).2.1 4 (1 : Int32)) 5 v1) 6 (-1 : Int32)), (R_resetDispatcher F A ).2.2) else some ((-7 : Int32), (ups (ups (ups (R_resetDispatcher F A ).2.1 4 (0 : Int32)) 5 (0 : Int32)) 6 (R_findMiss F A )), (R_resetDispatcher F A ).2.2)) else none)) := by
  rw [lp_build, if_neg (by decide), if_pos rfl]
set_option maxRecDepth 65536 in
set_option maxHeartbeats 4000000 in
theorem lpw_build {l : Launch} {Z : State} {a0 : Array Value} (H : OK Z a0) (G : Nat → Int64) (B : Nat → Int32 → Int64) : ∀ (n : Nat) (v1 : Int32) (v2 : Int32) (v3 : Int32) (F : Nat → Int32) (A : Nat → Int32 → Int32) (r : Int32 × (Nat → Int32) × (Nat → Int32 → Int32)), (lp_build n 38 v1 v2 v3 F A = some r → Wk l Z (MoC Z cdC) md_build 38 [.val (.ref 0), .val (.int v1), .val (.int v2), .unset] [] (7, F, G, A, B) 0 0 (fun v w' => v = some (.int r.1) ∧ w' = (7, r.2.1, G, r.2.2, B))) ∧ (lp_build n 74 v1 v2 v3 F A = some r → Wk l Z (MoC Z cdC) md_build 74 [.val (.ref 0), .val (.int v1), .val (.int v2), .val (.int v3)] [] (7, F, G, A, B) 0 0 (fun v w' => v = some (.int r.1) ∧ w' = (7, r.2.1, G, r.2.2, B))) := by
  intro n
  induction n with
  | zero =>
    intro v1 v2 v3 F A r
    exact ⟨(fun h => by rw [lp_build_z] at h; cases h), (fun h => by rw [lp_build_z] at h; cases h)⟩
  | succ n ih =>
    intro v1 v2 v3 F A r
    refine ⟨fun h => ?_, fun h => ?_⟩
    · rw [lp_build_38] at h
      exact wp_build_38 H F G A B v1 v2 (fun q1 => (gd (ifn q1 h)).1) (fun q1 => (ih _ _ _ _ _ _).2 (gd (ifn q1 h)).2) (fun q1 => (gd (ifp q1 h)).1) (fun q1 => (ih _ _ _ _ _ _).1 (gd (ifp q1 h)).2)
    · rw [lp_build_74] at h
      exact wp_build_74 H F G A B v1 v2 v3 (fun q1 => (gd (ifn q1 h)).1.1) (fun q1 => (gd (ifn q1 h)).1.2) (fun q1 q4 => (rt_build _ _ _ _ _ r (Option.some.inj (ifp q4 (gd (ifn q1 h)).2)))) (fun q1 q4 => (rt_build _ _ _ _ _ r (Option.some.inj (ifn q4 (gd (ifn q1 h)).2)))) (fun q1 => (gd (ifp q1 h)).1) (fun q1 => (ih _ _ _ _ _ _).2 (gd (ifp q1 h)).2)
def en_build (F : Nat → Int32) (A : Nat → Int32 → Int32) (p1 : Int32) : Option (Int32 × (Nat → Int32) × (Nat → Int32 → Int32)) := (if (F 2) = 0 then some ((-4 : Int32), F, A) else (if ((en_dividesHyper F p1).isSome = true) then (if (R_dividesHyper F p1) = 0 then some ((-5 : Int32), F, A) else (if ((en_deadlinesOk F A p1).isSome = true) then (if (R_deadlinesOk F A p1) = 0 then some ((-6 : Int32), F, A) else (if ((en_initJobs F A ).isSome = true) then lp_build 5000 38 p1 (0 : Int32) 0 F (R_initJobs F A ).2 else none)) else none)) else none))
theorem een_build (F : Nat → Int32) (A : Nat → Int32 → Int32) (p1 : Int32) : en_build F A p1 = (if (F 2) = 0 then some ((-4 : Int32), F, A) else (if ((en_dividesHyper F p1).isSome = true) then (if (R_dividesHyper F p1) = 0 then some ((-5 : Int32), F, A) else (if ((en_deadlinesOk F A p1).isSome = true) then (if (R_deadlinesOk F A p1) = 0 then some ((-6 : Int32), F, A) else (if ((en_initJobs F A ).isSome = true) then lp_build 5000 38 p1 (0 : Int32) 0 F (R_initJobs F A ).2 else none)) else none)) else none)) := Eq.trans rfl rfl
def R_build (F : Nat → Int32) (A : Nat → Int32 → Int32) (p1 : Int32) : Int32 × (Nat → Int32) × (Nat → Int32 → Int32) := (en_build F A p1).getD (0, (fun _ => 0), (fun _ _ => 0))
theorem eR_build (F : Nat → Int32) (A : Nat → Int32 → Int32) (p1 : Int32) : R_build F A p1 = (en_build F A p1).getD (0, (fun _ => 0), (fun _ _ => 0)) := Eq.trans rfl rfl
set_option maxRecDepth 65536 in
set_option maxHeartbeats 4000000 in
theorem run_build {l : Launch} {Z : State} {a0 : Array Value} (H : OK Z a0) (F : Nat → Int32) (G : Nat → Int64) (A : Nat → Int32 → Int32) (B : Nat → Int32 → Int64) (p1 : Int32) (e1 : (en_build F A p1).isSome = true) :
    Wk l Z (MoC Z cdC) md_build 0 [.val (.ref 0), .val (.int p1), .unset, .unset] [] (7, F, G, A, B) 0 0 (fun v w' => v = some (.int (R_build F A p1).1) ∧ w' = (7, (R_build F A p1).2.1, G, (R_build F A p1).2.2, B)) := by
  obtain ⟨r, h⟩ := Option.isSome_iff_exists.mp e1
  have e : R_build F A p1 = r := (eR_build F A p1).trans (getD_some h)
  rw [e]
  rw [een_build] at h
  exact wp_build H F G A B p1 (fun q1 => (gd (ifn q1 h)).1) (fun q1 q3 => (gd (ifn q3 (gd (ifn q1 h)).2)).1) (fun q1 q3 q5 => (gd (ifn q5 (gd (ifn q3 (gd (ifn q1 h)).2)).2)).1) (fun q1 q3 q5 => (lpw_build H G B _ _ _ _ _ _ _).1 (gd (ifn q5 (gd (ifn q3 (gd (ifn q1 h)).2)).2)).2) (fun q1 q3 q5 => (rt_build _ _ _ _ _ r (Option.some.inj (ifp q5 (gd (ifn q3 (gd (ifn q1 h)).2)).2)))) (fun q1 q3 => (rt_build _ _ _ _ _ r (Option.some.inj (ifp q3 (gd (ifn q1 h)).2)))) (fun q1 => (rt_build _ _ _ _ _ r (Option.some.inj (ifp q1 h))))
set_option maxRecDepth 65536 in
set_option maxHeartbeats 4000000 in
theorem wp_run {l : Launch} {Z : State} {a0 : Array Value} (H : OK Z a0) (F : Nat → Int32) (G : Nat → Int64) (A : Nat → Int32 → Int32) (B : Nat → Int32 → Int64) (p1 : Int32) {Q : Option Value → WO → Prop} (h2 : (F 4) = 0 → Q (some (.int (0 : Int32))) (7, F, G, A, B)) (h4 : ¬ (F 4) = 0 → p1 < (1 : Int32) → Q (some (.int (0 : Int32))) (7, F, G, A, B)) (h8 : ¬ (F 4) = 0 → ¬ p1 < (1 : Int32) → ¬ (F 3) < (1 : Int32) → Wk l Z (MoC Z cdC) md_run 39 [.val (.ref 0), .unset, .val (.int (if p1 < (4096 : Int32) then p1 else (4096 : Int32))), .val (.int (0 : Int32)), .unset] [] (7, F, G, A, B) 0 0 Q) (h9 : ¬ (F 4) = 0 → ¬ p1 < (1 : Int32) → (F 3) < (1 : Int32) → Q (some (.int (0 : Int32))) (7, F, G, A, B)) :
    Wk l Z (MoC Z cdC) md_run 0 [.val (.ref 0), .val (.int p1), .unset, .unset, .unset] [] (7, F, G, A, B) 0 0 Q := by
  refine Wk.aloadN o_run_0 rfl ?_
  refine Wk.getI (mI_present) (wf_present H) o_run_1 (x := (F 4)) rfl ?_
  refine Wk.if_eq o_run_4 (fun q1 => ?_) (fun q1 => ?_)
  · refine Wk.iconst o_run_20 (z := (0 : Int32)) (by decide) ?_
    exact Wk.ireturn mrC rfl o_run_21 rfl (by decide) (by decide) (h2 q1)
  · refine Wk.iloadN o_run_7 rfl ?_
    refine Wk.iconst o_run_8 (z := (1 : Int32)) (by decide) ?_
    refine Wk.icmp_lt o_run_9 (fun q3 => ?_) (fun q3 => ?_)
    · refine Wk.iconst o_run_20 (z := (0 : Int32)) (by decide) ?_
      exact Wk.ireturn mrC rfl o_run_21 rfl (by decide) (by decide) (h4 q1 q3)
    · refine Wk.aloadN o_run_12 rfl ?_
      refine Wk.getI (mI_hyper) (wf_hyper H) o_run_13 (x := (F 3)) rfl ?_
      refine Wk.iconst o_run_16 (z := (1 : Int32)) (by decide) ?_
      refine Wk.icmp_ge o_run_17 (fun q5 => ?_) (fun q5 => ?_)
      · refine Wk.iloadN o_run_22 rfl ?_
        refine Wk.sipush o_run_23 (z := (4096 : Int32)) (by decide) ?_
        have J7 : Wk l Z (MoC Z cdC) md_run 36 [.val (.ref 0), .val (.int p1), .unset, .unset, .unset] [.int (if p1 < (4096 : Int32) then p1 else (4096 : Int32))] (7, F, G, A, B) 0 0 Q := by
          refine Wk.istoreN o_run_36 (Or.inl rfl) (L' := [.val (.ref 0), .val (.int p1), .val (.int (if p1 < (4096 : Int32) then p1 else (4096 : Int32))), .unset, .unset]) rfl ?_
          refine Wk.iconst o_run_37 (z := (0 : Int32)) (by decide) ?_
          refine Wk.istoreN o_run_38 (Or.inl rfl) (L' := [.val (.ref 0), .val (.int p1), .val (.int (if p1 < (4096 : Int32) then p1 else (4096 : Int32))), .val (.int (0 : Int32)), .unset]) rfl ?_
          refine Wk.forget [false, true, false, false, false] (L' := [.val (.ref 0), .unset, .val (.int (if p1 < (4096 : Int32) then p1 else (4096 : Int32))), .val (.int (0 : Int32)), .unset]) rfl rfl ?_
          exact (h8 q1 q3 q5)
        refine Wk.icmp_ge o_run_26 (fun q6 => ?_) (fun q6 => ?_)
        · refine Wk.sipush o_run_33 (z := (4096 : Int32)) (by decide) ?_
          first | (rw [show ((if p1 < (4096 : Int32) then p1 else (4096 : Int32)) : Int32) = (4096 : Int32) from if_neg q6] at J7; exact J7) | exact J7 | (simp only [if_neg q6] at J7 ⊢; exact J7)
        · refine Wk.iloadN o_run_29 rfl ?_
          refine Wk.goto o_run_30 ?_
          first | (rw [show ((if p1 < (4096 : Int32) then p1 else (4096 : Int32)) : Int32) = p1 from if_pos q6] at J7; exact J7) | exact J7 | (simp only [if_pos q6] at J7 ⊢; exact J7)
      · refine Wk.iconst o_run_20 (z := (0 : Int32)) (by decide) ?_
        exact Wk.ireturn mrC rfl o_run_21 rfl (by decide) (by decide) (h9 q1 q3 q5)

set_option maxRecDepth 65536 in
set_option maxHeartbeats 4000000 in
theorem wp_run_39 {l : Launch} {Z : State} {a0 : Array Value} (H : OK Z a0) (F : Nat → Int32) (G : Nat → Int64) (A : Nat → Int32 → Int32) (B : Nat → Int32 → Int64) (v2 : Int32) (v3 : Int32) {Q : Option Value → WO → Prop} (h2 : ¬ v3 < v2 → Q (some (.int v2)) (7, F, G, A, B)) (h10 : v3 < v2 → (F 8) < 0 → ((A 4) (0 : Int32)) < 0 → ((0 : Int32) + (1 : Int32)) < (F 3) → Wk l Z (MoC Z cdC) md_run 39 [.val (.ref 0), .unset, .val (.int v2), .val (.int (v3 + (1 : Int32))), .unset] [] (7, (ups (ups (ups F 8 (0 : Int32)) 7 ((F 7) + (1 : Int32))) 8 ((0 : Int32) + (1 : Int32))), G, A, B) 0 0 Q) (h11 : v3 < v2 → (F 8) < 0 → ((A 4) (0 : Int32)) < 0 → ¬ ((0 : Int32) + (1 : Int32)) < (F 3) → Wk l Z (MoC Z cdC) md_run 39 [.val (.ref 0), .unset, .val (.int v2), .val (.int (v3 + (1 : Int32))), .unset] [] (7, (ups (ups (ups (ups F 8 (0 : Int32)) 7 ((F 7) + (1 : Int32))) 8 ((0 : Int32) + (1 : Int32))) 8 (0 : Int32)), G, A, B) 0 0 Q) (h14 : v3 < v2 → (F 8) < 0 → ¬ ((A 4) (0 : Int32)) < 0 → ¬ ((A 4) (0 : Int32)) < (8 : Int32) → ((0 : Int32) + (1 : Int32)) < (F 3) → Wk l Z (MoC Z cdC) md_run 39 [.val (.ref 0), .unset, .val (.int v2), .val (.int (v3 + (1 : Int32))), .unset] [] (7, (ups (ups (ups F 8 (0 : Int32)) 7 ((F 7) + (1 : Int32))) 8 ((0 : Int32) + (1 : Int32))), G, A, B) 0 0 Q) (h15 : v3 < v2 → (F 8) < 0 → ¬ ((A 4) (0 : Int32)) < 0 → ¬ ((A 4) (0 : Int32)) < (8 : Int32) → ¬ ((0 : Int32) + (1 : Int32)) < (F 3) → Wk l Z (MoC Z cdC) md_run 39 [.val (.ref 0), .unset, .val (.int v2), .val (.int (v3 + (1 : Int32))), .unset] [] (7, (ups (ups (ups (ups F 8 (0 : Int32)) 7 ((F 7) + (1 : Int32))) 8 ((0 : Int32) + (1 : Int32))) 8 (0 : Int32)), G, A, B) 0 0 Q) (h17 : v3 < v2 → (F 8) < 0 → ¬ ((A 4) (0 : Int32)) < 0 → ((A 4) (0 : Int32)) < (8 : Int32) → ((0 : Int32) + (1 : Int32)) < (F 3) → Wk l Z (MoC Z cdC) md_run 39 [.val (.ref 0), .unset, .val (.int v2), .val (.int (v3 + (1 : Int32))), .unset] [] (7, (ups (ups (ups F 8 (0 : Int32)) 7 ((F 7) + (1 : Int32))) 8 ((0 : Int32) + (1 : Int32))), G, (ups A 3 (ups (A 3) ((A 4) (0 : Int32)) (((A 3) ((A 4) (0 : Int32))) + (1 : Int32)))), B) 0 0 Q) (h18 : v3 < v2 → (F 8) < 0 → ¬ ((A 4) (0 : Int32)) < 0 → ((A 4) (0 : Int32)) < (8 : Int32) → ¬ ((0 : Int32) + (1 : Int32)) < (F 3) → Wk l Z (MoC Z cdC) md_run 39 [.val (.ref 0), .unset, .val (.int v2), .val (.int (v3 + (1 : Int32))), .unset] [] (7, (ups (ups (ups (ups F 8 (0 : Int32)) 7 ((F 7) + (1 : Int32))) 8 ((0 : Int32) + (1 : Int32))) 8 (0 : Int32)), G, (ups A 3 (ups (A 3) ((A 4) (0 : Int32)) (((A 3) ((A 4) (0 : Int32))) + (1 : Int32)))), B) 0 0 Q) (h24 : v3 < v2 → ¬ (F 8) < 0 → ¬ (F 8) < (F 3) → ((A 4) (0 : Int32)) < 0 → ((0 : Int32) + (1 : Int32)) < (F 3) → Wk l Z (MoC Z cdC) md_run 39 [.val (.ref 0), .unset, .val (.int v2), .val (.int (v3 + (1 : Int32))), .unset] [] (7, (ups (ups (ups F 8 (0 : Int32)) 7 ((F 7) + (1 : Int32))) 8 ((0 : Int32) + (1 : Int32))), G, A, B) 0 0 Q) (h25 : v3 < v2 → ¬ (F 8) < 0 → ¬ (F 8) < (F 3) → ((A 4) (0 : Int32)) < 0 → ¬ ((0 : Int32) + (1 : Int32)) < (F 3) → Wk l Z (MoC Z cdC) md_run 39 [.val (.ref 0), .unset, .val (.int v2), .val (.int (v3 + (1 : Int32))), .unset] [] (7, (ups (ups (ups (ups F 8 (0 : Int32)) 7 ((F 7) + (1 : Int32))) 8 ((0 : Int32) + (1 : Int32))) 8 (0 : Int32)), G, A, B) 0 0 Q) (h28 : v3 < v2 → ¬ (F 8) < 0 → ¬ (F 8) < (F 3) → ¬ ((A 4) (0 : Int32)) < 0 → ¬ ((A 4) (0 : Int32)) < (8 : Int32) → ((0 : Int32) + (1 : Int32)) < (F 3) → Wk l Z (MoC Z cdC) md_run 39 [.val (.ref 0), .unset, .val (.int v2), .val (.int (v3 + (1 : Int32))), .unset] [] (7, (ups (ups (ups F 8 (0 : Int32)) 7 ((F 7) + (1 : Int32))) 8 ((0 : Int32) + (1 : Int32))), G, A, B) 0 0 Q) (h29 : v3 < v2 → ¬ (F 8) < 0 → ¬ (F 8) < (F 3) → ¬ ((A 4) (0 : Int32)) < 0 → ¬ ((A 4) (0 : Int32)) < (8 : Int32) → ¬ ((0 : Int32) + (1 : Int32)) < (F 3) → Wk l Z (MoC Z cdC) md_run 39 [.val (.ref 0), .unset, .val (.int v2), .val (.int (v3 + (1 : Int32))), .unset] [] (7, (ups (ups (ups (ups F 8 (0 : Int32)) 7 ((F 7) + (1 : Int32))) 8 ((0 : Int32) + (1 : Int32))) 8 (0 : Int32)), G, A, B) 0 0 Q) (h31 : v3 < v2 → ¬ (F 8) < 0 → ¬ (F 8) < (F 3) → ¬ ((A 4) (0 : Int32)) < 0 → ((A 4) (0 : Int32)) < (8 : Int32) → ((0 : Int32) + (1 : Int32)) < (F 3) → Wk l Z (MoC Z cdC) md_run 39 [.val (.ref 0), .unset, .val (.int v2), .val (.int (v3 + (1 : Int32))), .unset] [] (7, (ups (ups (ups F 8 (0 : Int32)) 7 ((F 7) + (1 : Int32))) 8 ((0 : Int32) + (1 : Int32))), G, (ups A 3 (ups (A 3) ((A 4) (0 : Int32)) (((A 3) ((A 4) (0 : Int32))) + (1 : Int32)))), B) 0 0 Q) (h32 : v3 < v2 → ¬ (F 8) < 0 → ¬ (F 8) < (F 3) → ¬ ((A 4) (0 : Int32)) < 0 → ((A 4) (0 : Int32)) < (8 : Int32) → ¬ ((0 : Int32) + (1 : Int32)) < (F 3) → Wk l Z (MoC Z cdC) md_run 39 [.val (.ref 0), .unset, .val (.int v2), .val (.int (v3 + (1 : Int32))), .unset] [] (7, (ups (ups (ups (ups F 8 (0 : Int32)) 7 ((F 7) + (1 : Int32))) 8 ((0 : Int32) + (1 : Int32))) 8 (0 : Int32)), G, (ups A 3 (ups (A 3) ((A 4) (0 : Int32)) (((A 3) ((A 4) (0 : Int32))) + (1 : Int32)))), B) 0 0 Q) (h37 : v3 < v2 → ¬ (F 8) < 0 → (F 8) < (F 3) → (F 8) < (128 : Int32) → ((A 4) (F 8)) < 0 → ((F 8) + (1 : Int32)) < (F 3) → Wk l Z (MoC Z cdC) md_run 39 [.val (.ref 0), .unset, .val (.int v2), .val (.int (v3 + (1 : Int32))), .unset] [] (7, (ups (ups F 7 ((F 7) + (1 : Int32))) 8 ((F 8) + (1 : Int32))), G, A, B) 0 0 Q) (h38 : v3 < v2 → ¬ (F 8) < 0 → (F 8) < (F 3) → (F 8) < (128 : Int32) → ((A 4) (F 8)) < 0 → ¬ ((F 8) + (1 : Int32)) < (F 3) → Wk l Z (MoC Z cdC) md_run 39 [.val (.ref 0), .unset, .val (.int v2), .val (.int (v3 + (1 : Int32))), .unset] [] (7, (ups (ups (ups F 7 ((F 7) + (1 : Int32))) 8 ((F 8) + (1 : Int32))) 8 (0 : Int32)), G, A, B) 0 0 Q) (h41 : v3 < v2 → ¬ (F 8) < 0 → (F 8) < (F 3) → (F 8) < (128 : Int32) → ¬ ((A 4) (F 8)) < 0 → ¬ ((A 4) (F 8)) < (8 : Int32) → ((F 8) + (1 : Int32)) < (F 3) → Wk l Z (MoC Z cdC) md_run 39 [.val (.ref 0), .unset, .val (.int v2), .val (.int (v3 + (1 : Int32))), .unset] [] (7, (ups (ups F 7 ((F 7) + (1 : Int32))) 8 ((F 8) + (1 : Int32))), G, A, B) 0 0 Q) (h42 : v3 < v2 → ¬ (F 8) < 0 → (F 8) < (F 3) → (F 8) < (128 : Int32) → ¬ ((A 4) (F 8)) < 0 → ¬ ((A 4) (F 8)) < (8 : Int32) → ¬ ((F 8) + (1 : Int32)) < (F 3) → Wk l Z (MoC Z cdC) md_run 39 [.val (.ref 0), .unset, .val (.int v2), .val (.int (v3 + (1 : Int32))), .unset] [] (7, (ups (ups (ups F 7 ((F 7) + (1 : Int32))) 8 ((F 8) + (1 : Int32))) 8 (0 : Int32)), G, A, B) 0 0 Q) (h44 : v3 < v2 → ¬ (F 8) < 0 → (F 8) < (F 3) → (F 8) < (128 : Int32) → ¬ ((A 4) (F 8)) < 0 → ((A 4) (F 8)) < (8 : Int32) → ((F 8) + (1 : Int32)) < (F 3) → Wk l Z (MoC Z cdC) md_run 39 [.val (.ref 0), .unset, .val (.int v2), .val (.int (v3 + (1 : Int32))), .unset] [] (7, (ups (ups F 7 ((F 7) + (1 : Int32))) 8 ((F 8) + (1 : Int32))), G, (ups A 3 (ups (A 3) ((A 4) (F 8)) (((A 3) ((A 4) (F 8))) + (1 : Int32)))), B) 0 0 Q) (h45 : v3 < v2 → ¬ (F 8) < 0 → (F 8) < (F 3) → (F 8) < (128 : Int32) → ¬ ((A 4) (F 8)) < 0 → ((A 4) (F 8)) < (8 : Int32) → ¬ ((F 8) + (1 : Int32)) < (F 3) → Wk l Z (MoC Z cdC) md_run 39 [.val (.ref 0), .unset, .val (.int v2), .val (.int (v3 + (1 : Int32))), .unset] [] (7, (ups (ups (ups F 7 ((F 7) + (1 : Int32))) 8 ((F 8) + (1 : Int32))) 8 (0 : Int32)), G, (ups A 3 (ups (A 3) ((A 4) (F 8)) (((A 3) ((A 4) (F 8))) + (1 : Int32)))), B) 0 0 Q) (h49 : v3 < v2 → ¬ (F 8) < 0 → (F 8) < (F 3) → ¬ (F 8) < (128 : Int32) → ((A 4) (0 : Int32)) < 0 → ((0 : Int32) + (1 : Int32)) < (F 3) → Wk l Z (MoC Z cdC) md_run 39 [.val (.ref 0), .unset, .val (.int v2), .val (.int (v3 + (1 : Int32))), .unset] [] (7, (ups (ups (ups F 8 (0 : Int32)) 7 ((F 7) + (1 : Int32))) 8 ((0 : Int32) + (1 : Int32))), G, A, B) 0 0 Q) (h50 : v3 < v2 → ¬ (F 8) < 0 → (F 8) < (F 3) → ¬ (F 8) < (128 : Int32) → ((A 4) (0 : Int32)) < 0 → ¬ ((0 : Int32) + (1 : Int32)) < (F 3) → Wk l Z (MoC Z cdC) md_run 39 [.val (.ref 0), .unset, .val (.int v2), .val (.int (v3 + (1 : Int32))), .unset] [] (7, (ups (ups (ups (ups F 8 (0 : Int32)) 7 ((F 7) + (1 : Int32))) 8 ((0 : Int32) + (1 : Int32))) 8 (0 : Int32)), G, A, B) 0 0 Q) (h53 : v3 < v2 → ¬ (F 8) < 0 → (F 8) < (F 3) → ¬ (F 8) < (128 : Int32) → ¬ ((A 4) (0 : Int32)) < 0 → ¬ ((A 4) (0 : Int32)) < (8 : Int32) → ((0 : Int32) + (1 : Int32)) < (F 3) → Wk l Z (MoC Z cdC) md_run 39 [.val (.ref 0), .unset, .val (.int v2), .val (.int (v3 + (1 : Int32))), .unset] [] (7, (ups (ups (ups F 8 (0 : Int32)) 7 ((F 7) + (1 : Int32))) 8 ((0 : Int32) + (1 : Int32))), G, A, B) 0 0 Q) (h54 : v3 < v2 → ¬ (F 8) < 0 → (F 8) < (F 3) → ¬ (F 8) < (128 : Int32) → ¬ ((A 4) (0 : Int32)) < 0 → ¬ ((A 4) (0 : Int32)) < (8 : Int32) → ¬ ((0 : Int32) + (1 : Int32)) < (F 3) → Wk l Z (MoC Z cdC) md_run 39 [.val (.ref 0), .unset, .val (.int v2), .val (.int (v3 + (1 : Int32))), .unset] [] (7, (ups (ups (ups (ups F 8 (0 : Int32)) 7 ((F 7) + (1 : Int32))) 8 ((0 : Int32) + (1 : Int32))) 8 (0 : Int32)), G, A, B) 0 0 Q) (h56 : v3 < v2 → ¬ (F 8) < 0 → (F 8) < (F 3) → ¬ (F 8) < (128 : Int32) → ¬ ((A 4) (0 : Int32)) < 0 → ((A 4) (0 : Int32)) < (8 : Int32) → ((0 : Int32) + (1 : Int32)) < (F 3) → Wk l Z (MoC Z cdC) md_run 39 [.val (.ref 0), .unset, .val (.int v2), .val (.int (v3 + (1 : Int32))), .unset] [] (7, (ups (ups (ups F 8 (0 : Int32)) 7 ((F 7) + (1 : Int32))) 8 ((0 : Int32) + (1 : Int32))), G, (ups A 3 (ups (A 3) ((A 4) (0 : Int32)) (((A 3) ((A 4) (0 : Int32))) + (1 : Int32)))), B) 0 0 Q) (h57 : v3 < v2 → ¬ (F 8) < 0 → (F 8) < (F 3) → ¬ (F 8) < (128 : Int32) → ¬ ((A 4) (0 : Int32)) < 0 → ((A 4) (0 : Int32)) < (8 : Int32) → ¬ ((0 : Int32) + (1 : Int32)) < (F 3) → Wk l Z (MoC Z cdC) md_run 39 [.val (.ref 0), .unset, .val (.int v2), .val (.int (v3 + (1 : Int32))), .unset] [] (7, (ups (ups (ups (ups F 8 (0 : Int32)) 7 ((F 7) + (1 : Int32))) 8 ((0 : Int32) + (1 : Int32))) 8 (0 : Int32)), G, (ups A 3 (ups (A 3) ((A 4) (0 : Int32)) (((A 3) ((A 4) (0 : Int32))) + (1 : Int32)))), B) 0 0 Q) :
    Wk l Z (MoC Z cdC) md_run 39 [.val (.ref 0), .unset, .val (.int v2), .val (.int v3), .unset] [] (7, F, G, A, B) 0 0 Q := by
  refine Wk.iloadN o_run_39 rfl ?_
  refine Wk.iloadN o_run_40 rfl ?_
  refine Wk.icmp_ge o_run_41 (fun q1 => ?_) (fun q1 => ?_)
  · refine Wk.iloadN o_run_153 rfl ?_
    exact Wk.ireturn mrC rfl o_run_154 rfl (by decide) (by decide) (h2 q1)
  · refine Wk.aloadN o_run_44 rfl ?_
    refine Wk.getI (mI_pos) (wf_pos H) o_run_45 (x := (F 8)) rfl ?_
    refine Wk.if_lt o_run_48 (fun q3 => ?_) (fun q3 => ?_)
    · refine Wk.aloadN o_run_72 rfl ?_
      refine Wk.iconst o_run_73 (z := (0 : Int32)) (by decide) ?_
      refine Wk.putI (coC H) (mI_pos) (wf_pos H) (Or.inl (wy_pos H)) o_run_74 ?_
      refine Wk.aloadN o_run_77 rfl ?_
      refine Wk.getA (mA_tickTask) (by decide) (i' := 5) rfl (wf_tickTask H) o_run_78 ?_
      refine Wk.aloadN o_run_81 rfl ?_
      refine Wk.getI (mI_pos) (wf_pos H) o_run_82 (x := (0 : Int32)) rfl ?_
      refine Wk.iaload (mA_tickTask) (by decide) (i' := 5) rfl (by decide) (by decide) o_run_85 (y := ((A 4) (0 : Int32))) rfl ?_
      refine Wk.istore o_run_86 (Or.inl rfl) (L' := [.val (.ref 0), .unset, .val (.int v2), .val (.int v3), .val (.int ((A 4) (0 : Int32)))]) rfl ?_
      refine Wk.iload o_run_88 rfl ?_
      refine Wk.if_lt o_run_90 (fun q7 => ?_) (fun q7 => ?_)
      · refine Wk.aloadN o_run_111 rfl ?_
        refine Wk.dup o_run_112 rfl ?_
        refine Wk.getI (mI_now) (wf_now H) o_run_113 (x := (F 7)) rfl ?_
        refine Wk.iconst o_run_116 (z := (1 : Int32)) (by decide) ?_
        refine Wk.iadd o_run_117 ?_
        refine Wk.putI (coC H) (mI_now) (wf_now H) (Or.inl (wy_now H)) o_run_118 ?_
        refine Wk.aloadN o_run_121 rfl ?_
        refine Wk.dup o_run_122 rfl ?_
        refine Wk.getI (mI_pos) (wf_pos H) o_run_123 (x := (0 : Int32)) rfl ?_
        refine Wk.iconst o_run_126 (z := (1 : Int32)) (by decide) ?_
        refine Wk.iadd o_run_127 ?_
        refine Wk.putI (coC H) (mI_pos) (wf_pos H) (Or.inl (wy_pos H)) o_run_128 ?_
        refine Wk.aloadN o_run_131 rfl ?_
        refine Wk.getI (mI_pos) (wf_pos H) o_run_132 (x := ((0 : Int32) + (1 : Int32))) rfl ?_
        refine Wk.aloadN o_run_135 rfl ?_
        refine Wk.getI (mI_hyper) (wf_hyper H) o_run_136 (x := (F 3)) rfl ?_
        refine Wk.icmp_lt o_run_139 (fun q9 => ?_) (fun q9 => ?_)
        · refine Wk.iinc o_run_147 rfl (z := (v3 + (1 : Int32))) rfl (L' := [.val (.ref 0), .unset, .val (.int v2), .val (.int (v3 + (1 : Int32))), .val (.int ((A 4) (0 : Int32)))]) rfl ?_
          refine Wk.goto o_run_150 ?_
          refine Wk.forget [false, false, false, false, true] (L' := [.val (.ref 0), .unset, .val (.int v2), .val (.int (v3 + (1 : Int32))), .unset]) rfl rfl ?_
          exact (h10 q1 q3 q7 q9)
        · refine Wk.aloadN o_run_142 rfl ?_
          refine Wk.iconst o_run_143 (z := (0 : Int32)) (by decide) ?_
          refine Wk.putI (coC H) (mI_pos) (wf_pos H) (Or.inl (wy_pos H)) o_run_144 ?_
          refine Wk.iinc o_run_147 rfl (z := (v3 + (1 : Int32))) rfl (L' := [.val (.ref 0), .unset, .val (.int v2), .val (.int (v3 + (1 : Int32))), .val (.int ((A 4) (0 : Int32)))]) rfl ?_
          refine Wk.goto o_run_150 ?_
          refine Wk.forget [false, false, false, false, true] (L' := [.val (.ref 0), .unset, .val (.int v2), .val (.int (v3 + (1 : Int32))), .unset]) rfl rfl ?_
          exact (h11 q1 q3 q7 q9)
      · refine Wk.iload o_run_93 rfl ?_
        refine Wk.bipush o_run_95 (z := (8 : Int32)) (by decide) ?_
        refine Wk.icmp_ge o_run_97 (fun q12 => ?_) (fun q12 => ?_)
        · refine Wk.aloadN o_run_111 rfl ?_
          refine Wk.dup o_run_112 rfl ?_
          refine Wk.getI (mI_now) (wf_now H) o_run_113 (x := (F 7)) rfl ?_
          refine Wk.iconst o_run_116 (z := (1 : Int32)) (by decide) ?_
          refine Wk.iadd o_run_117 ?_
          refine Wk.putI (coC H) (mI_now) (wf_now H) (Or.inl (wy_now H)) o_run_118 ?_
          refine Wk.aloadN o_run_121 rfl ?_
          refine Wk.dup o_run_122 rfl ?_
          refine Wk.getI (mI_pos) (wf_pos H) o_run_123 (x := (0 : Int32)) rfl ?_
          refine Wk.iconst o_run_126 (z := (1 : Int32)) (by decide) ?_
          refine Wk.iadd o_run_127 ?_
          refine Wk.putI (coC H) (mI_pos) (wf_pos H) (Or.inl (wy_pos H)) o_run_128 ?_
          refine Wk.aloadN o_run_131 rfl ?_
          refine Wk.getI (mI_pos) (wf_pos H) o_run_132 (x := ((0 : Int32) + (1 : Int32))) rfl ?_
          refine Wk.aloadN o_run_135 rfl ?_
          refine Wk.getI (mI_hyper) (wf_hyper H) o_run_136 (x := (F 3)) rfl ?_
          refine Wk.icmp_lt o_run_139 (fun q13 => ?_) (fun q13 => ?_)
          · refine Wk.iinc o_run_147 rfl (z := (v3 + (1 : Int32))) rfl (L' := [.val (.ref 0), .unset, .val (.int v2), .val (.int (v3 + (1 : Int32))), .val (.int ((A 4) (0 : Int32)))]) rfl ?_
            refine Wk.goto o_run_150 ?_
            refine Wk.forget [false, false, false, false, true] (L' := [.val (.ref 0), .unset, .val (.int v2), .val (.int (v3 + (1 : Int32))), .unset]) rfl rfl ?_
            exact (h14 q1 q3 q7 q12 q13)
          · refine Wk.aloadN o_run_142 rfl ?_
            refine Wk.iconst o_run_143 (z := (0 : Int32)) (by decide) ?_
            refine Wk.putI (coC H) (mI_pos) (wf_pos H) (Or.inl (wy_pos H)) o_run_144 ?_
            refine Wk.iinc o_run_147 rfl (z := (v3 + (1 : Int32))) rfl (L' := [.val (.ref 0), .unset, .val (.int v2), .val (.int (v3 + (1 : Int32))), .val (.int ((A 4) (0 : Int32)))]) rfl ?_
            refine Wk.goto o_run_150 ?_
            refine Wk.forget [false, false, false, false, true] (L' := [.val (.ref 0), .unset, .val (.int v2), .val (.int (v3 + (1 : Int32))), .unset]) rfl rfl ?_
            exact (h15 q1 q3 q7 q12 q13)
        · refine Wk.aloadN o_run_100 rfl ?_
          refine Wk.getA (mA_runCnt) (by decide) (i' := 4) rfl (wf_runCnt H) o_run_101 ?_
          refine Wk.iload o_run_104 rfl ?_
          refine Wk.dup2 o_run_106 rfl rfl ?_
          refine Wk.iaload (mA_runCnt) (by decide) (i' := 4) rfl q7 q12 o_run_107 (y := ((A 3) ((A 4) (0 : Int32)))) rfl ?_
          refine Wk.iconst o_run_108 (z := (1 : Int32)) (by decide) ?_
          refine Wk.iadd o_run_109 ?_
          refine Wk.iastore (coC H) (f := (A 3)) (mA_runCnt) rfl (by decide) (i' := 4) rfl q7 q12 o_run_110 ?_
          refine Wk.aloadN o_run_111 rfl ?_
          refine Wk.dup o_run_112 rfl ?_
          refine Wk.getI (mI_now) (wf_now H) o_run_113 (x := (F 7)) rfl ?_
          refine Wk.iconst o_run_116 (z := (1 : Int32)) (by decide) ?_
          refine Wk.iadd o_run_117 ?_
          refine Wk.putI (coC H) (mI_now) (wf_now H) (Or.inl (wy_now H)) o_run_118 ?_
          refine Wk.aloadN o_run_121 rfl ?_
          refine Wk.dup o_run_122 rfl ?_
          refine Wk.getI (mI_pos) (wf_pos H) o_run_123 (x := (0 : Int32)) rfl ?_
          refine Wk.iconst o_run_126 (z := (1 : Int32)) (by decide) ?_
          refine Wk.iadd o_run_127 ?_
          refine Wk.putI (coC H) (mI_pos) (wf_pos H) (Or.inl (wy_pos H)) o_run_128 ?_
          refine Wk.aloadN o_run_131 rfl ?_
          refine Wk.getI (mI_pos) (wf_pos H) o_run_132 (x := ((0 : Int32) + (1 : Int32))) rfl ?_
          refine Wk.aloadN o_run_135 rfl ?_
          refine Wk.getI (mI_hyper) (wf_hyper H) o_run_136 (x := (F 3)) rfl ?_
          refine Wk.icmp_lt o_run_139 (fun q16 => ?_) (fun q16 => ?_)
          · refine Wk.iinc o_run_147 rfl (z := (v3 + (1 : Int32))) rfl (L' := [.val (.ref 0), .unset, .val (.int v2), .val (.int (v3 + (1 : Int32))), .val (.int ((A 4) (0 : Int32)))]) rfl ?_
            refine Wk.goto o_run_150 ?_
            refine Wk.forget [false, false, false, false, true] (L' := [.val (.ref 0), .unset, .val (.int v2), .val (.int (v3 + (1 : Int32))), .unset]) rfl rfl ?_
            exact (h17 q1 q3 q7 q12 q16)
          · refine Wk.aloadN o_run_142 rfl ?_
            refine Wk.iconst o_run_143 (z := (0 : Int32)) (by decide) ?_
            refine Wk.putI (coC H) (mI_pos) (wf_pos H) (Or.inl (wy_pos H)) o_run_144 ?_
            refine Wk.iinc o_run_147 rfl (z := (v3 + (1 : Int32))) rfl (L' := [.val (.ref 0), .unset, .val (.int v2), .val (.int (v3 + (1 : Int32))), .val (.int ((A 4) (0 : Int32)))]) rfl ?_
            refine Wk.goto o_run_150 ?_
            refine Wk.forget [false, false, false, false, true] (L' := [.val (.ref 0), .unset, .val (.int v2), .val (.int (v3 + (1 : Int32))), .unset]) rfl rfl ?_
            exact (h18 q1 q3 q7 q12 q16)
    · refine Wk.aloadN o_run_51 rfl ?_
      refine Wk.getI (mI_pos) (wf_pos H) o_run_52 (x := (F 8)) rfl ?_
      refine Wk.aloadN o_run_55 rfl ?_
      refine Wk.getI (mI_hyper) (wf_hyper H) o_run_56 (x := (F 3)) rfl ?_
      refine Wk.icmp_ge o_run_59 (fun q19 => ?_) (fun q19 => ?_)
      · refine Wk.aloadN o_run_72 rfl ?_
        refine Wk.iconst o_run_73 (z := (0 : Int32)) (by decide) ?_
        refine Wk.putI (coC H) (mI_pos) (wf_pos H) (Or.inl (wy_pos H)) o_run_74 ?_
        refine Wk.aloadN o_run_77 rfl ?_
        refine Wk.getA (mA_tickTask) (by decide) (i' := 5) rfl (wf_tickTask H) o_run_78 ?_
        refine Wk.aloadN o_run_81 rfl ?_
        refine Wk.getI (mI_pos) (wf_pos H) o_run_82 (x := (0 : Int32)) rfl ?_
        refine Wk.iaload (mA_tickTask) (by decide) (i' := 5) rfl (by decide) (by decide) o_run_85 (y := ((A 4) (0 : Int32))) rfl ?_
        refine Wk.istore o_run_86 (Or.inl rfl) (L' := [.val (.ref 0), .unset, .val (.int v2), .val (.int v3), .val (.int ((A 4) (0 : Int32)))]) rfl ?_
        refine Wk.iload o_run_88 rfl ?_
        refine Wk.if_lt o_run_90 (fun q21 => ?_) (fun q21 => ?_)
        · refine Wk.aloadN o_run_111 rfl ?_
          refine Wk.dup o_run_112 rfl ?_
          refine Wk.getI (mI_now) (wf_now H) o_run_113 (x := (F 7)) rfl ?_
          refine Wk.iconst o_run_116 (z := (1 : Int32)) (by decide) ?_
          refine Wk.iadd o_run_117 ?_
          refine Wk.putI (coC H) (mI_now) (wf_now H) (Or.inl (wy_now H)) o_run_118 ?_
          refine Wk.aloadN o_run_121 rfl ?_
          refine Wk.dup o_run_122 rfl ?_
          refine Wk.getI (mI_pos) (wf_pos H) o_run_123 (x := (0 : Int32)) rfl ?_
          refine Wk.iconst o_run_126 (z := (1 : Int32)) (by decide) ?_
          refine Wk.iadd o_run_127 ?_
          refine Wk.putI (coC H) (mI_pos) (wf_pos H) (Or.inl (wy_pos H)) o_run_128 ?_
          refine Wk.aloadN o_run_131 rfl ?_
          refine Wk.getI (mI_pos) (wf_pos H) o_run_132 (x := ((0 : Int32) + (1 : Int32))) rfl ?_
          refine Wk.aloadN o_run_135 rfl ?_
          refine Wk.getI (mI_hyper) (wf_hyper H) o_run_136 (x := (F 3)) rfl ?_
          refine Wk.icmp_lt o_run_139 (fun q23 => ?_) (fun q23 => ?_)
          · refine Wk.iinc o_run_147 rfl (z := (v3 + (1 : Int32))) rfl (L' := [.val (.ref 0), .unset, .val (.int v2), .val (.int (v3 + (1 : Int32))), .val (.int ((A 4) (0 : Int32)))]) rfl ?_
            refine Wk.goto o_run_150 ?_
            refine Wk.forget [false, false, false, false, true] (L' := [.val (.ref 0), .unset, .val (.int v2), .val (.int (v3 + (1 : Int32))), .unset]) rfl rfl ?_
            exact (h24 q1 q3 q19 q21 q23)
          · refine Wk.aloadN o_run_142 rfl ?_
            refine Wk.iconst o_run_143 (z := (0 : Int32)) (by decide) ?_
            refine Wk.putI (coC H) (mI_pos) (wf_pos H) (Or.inl (wy_pos H)) o_run_144 ?_
            refine Wk.iinc o_run_147 rfl (z := (v3 + (1 : Int32))) rfl (L' := [.val (.ref 0), .unset, .val (.int v2), .val (.int (v3 + (1 : Int32))), .val (.int ((A 4) (0 : Int32)))]) rfl ?_
            refine Wk.goto o_run_150 ?_
            refine Wk.forget [false, false, false, false, true] (L' := [.val (.ref 0), .unset, .val (.int v2), .val (.int (v3 + (1 : Int32))), .unset]) rfl rfl ?_
            exact (h25 q1 q3 q19 q21 q23)
        · refine Wk.iload o_run_93 rfl ?_
          refine Wk.bipush o_run_95 (z := (8 : Int32)) (by decide) ?_
          refine Wk.icmp_ge o_run_97 (fun q26 => ?_) (fun q26 => ?_)
          · refine Wk.aloadN o_run_111 rfl ?_
            refine Wk.dup o_run_112 rfl ?_
            refine Wk.getI (mI_now) (wf_now H) o_run_113 (x := (F 7)) rfl ?_
            refine Wk.iconst o_run_116 (z := (1 : Int32)) (by decide) ?_
            refine Wk.iadd o_run_117 ?_
            refine Wk.putI (coC H) (mI_now) (wf_now H) (Or.inl (wy_now H)) o_run_118 ?_
            refine Wk.aloadN o_run_121 rfl ?_
            refine Wk.dup o_run_122 rfl ?_
            refine Wk.getI (mI_pos) (wf_pos H) o_run_123 (x := (0 : Int32)) rfl ?_
            refine Wk.iconst o_run_126 (z := (1 : Int32)) (by decide) ?_
            refine Wk.iadd o_run_127 ?_
            refine Wk.putI (coC H) (mI_pos) (wf_pos H) (Or.inl (wy_pos H)) o_run_128 ?_
            refine Wk.aloadN o_run_131 rfl ?_
            refine Wk.getI (mI_pos) (wf_pos H) o_run_132 (x := ((0 : Int32) + (1 : Int32))) rfl ?_
            refine Wk.aloadN o_run_135 rfl ?_
            refine Wk.getI (mI_hyper) (wf_hyper H) o_run_136 (x := (F 3)) rfl ?_
            refine Wk.icmp_lt o_run_139 (fun q27 => ?_) (fun q27 => ?_)
            · refine Wk.iinc o_run_147 rfl (z := (v3 + (1 : Int32))) rfl (L' := [.val (.ref 0), .unset, .val (.int v2), .val (.int (v3 + (1 : Int32))), .val (.int ((A 4) (0 : Int32)))]) rfl ?_
              refine Wk.goto o_run_150 ?_
              refine Wk.forget [false, false, false, false, true] (L' := [.val (.ref 0), .unset, .val (.int v2), .val (.int (v3 + (1 : Int32))), .unset]) rfl rfl ?_
              exact (h28 q1 q3 q19 q21 q26 q27)
            · refine Wk.aloadN o_run_142 rfl ?_
              refine Wk.iconst o_run_143 (z := (0 : Int32)) (by decide) ?_
              refine Wk.putI (coC H) (mI_pos) (wf_pos H) (Or.inl (wy_pos H)) o_run_144 ?_
              refine Wk.iinc o_run_147 rfl (z := (v3 + (1 : Int32))) rfl (L' := [.val (.ref 0), .unset, .val (.int v2), .val (.int (v3 + (1 : Int32))), .val (.int ((A 4) (0 : Int32)))]) rfl ?_
              refine Wk.goto o_run_150 ?_
              refine Wk.forget [false, false, false, false, true] (L' := [.val (.ref 0), .unset, .val (.int v2), .val (.int (v3 + (1 : Int32))), .unset]) rfl rfl ?_
              exact (h29 q1 q3 q19 q21 q26 q27)
          · refine Wk.aloadN o_run_100 rfl ?_
            refine Wk.getA (mA_runCnt) (by decide) (i' := 4) rfl (wf_runCnt H) o_run_101 ?_
            refine Wk.iload o_run_104 rfl ?_
            refine Wk.dup2 o_run_106 rfl rfl ?_
            refine Wk.iaload (mA_runCnt) (by decide) (i' := 4) rfl q21 q26 o_run_107 (y := ((A 3) ((A 4) (0 : Int32)))) rfl ?_
            refine Wk.iconst o_run_108 (z := (1 : Int32)) (by decide) ?_
            refine Wk.iadd o_run_109 ?_
            refine Wk.iastore (coC H) (f := (A 3)) (mA_runCnt) rfl (by decide) (i' := 4) rfl q21 q26 o_run_110 ?_
            refine Wk.aloadN o_run_111 rfl ?_
            refine Wk.dup o_run_112 rfl ?_
            refine Wk.getI (mI_now) (wf_now H) o_run_113 (x := (F 7)) rfl ?_
            refine Wk.iconst o_run_116 (z := (1 : Int32)) (by decide) ?_
            refine Wk.iadd o_run_117 ?_
            refine Wk.putI (coC H) (mI_now) (wf_now H) (Or.inl (wy_now H)) o_run_118 ?_
            refine Wk.aloadN o_run_121 rfl ?_
            refine Wk.dup o_run_122 rfl ?_
            refine Wk.getI (mI_pos) (wf_pos H) o_run_123 (x := (0 : Int32)) rfl ?_
            refine Wk.iconst o_run_126 (z := (1 : Int32)) (by decide) ?_
            refine Wk.iadd o_run_127 ?_
            refine Wk.putI (coC H) (mI_pos) (wf_pos H) (Or.inl (wy_pos H)) o_run_128 ?_
            refine Wk.aloadN o_run_131 rfl ?_
            refine Wk.getI (mI_pos) (wf_pos H) o_run_132 (x := ((0 : Int32) + (1 : Int32))) rfl ?_
            refine Wk.aloadN o_run_135 rfl ?_
            refine Wk.getI (mI_hyper) (wf_hyper H) o_run_136 (x := (F 3)) rfl ?_
            refine Wk.icmp_lt o_run_139 (fun q30 => ?_) (fun q30 => ?_)
            · refine Wk.iinc o_run_147 rfl (z := (v3 + (1 : Int32))) rfl (L' := [.val (.ref 0), .unset, .val (.int v2), .val (.int (v3 + (1 : Int32))), .val (.int ((A 4) (0 : Int32)))]) rfl ?_
              refine Wk.goto o_run_150 ?_
              refine Wk.forget [false, false, false, false, true] (L' := [.val (.ref 0), .unset, .val (.int v2), .val (.int (v3 + (1 : Int32))), .unset]) rfl rfl ?_
              exact (h31 q1 q3 q19 q21 q26 q30)
            · refine Wk.aloadN o_run_142 rfl ?_
              refine Wk.iconst o_run_143 (z := (0 : Int32)) (by decide) ?_
              refine Wk.putI (coC H) (mI_pos) (wf_pos H) (Or.inl (wy_pos H)) o_run_144 ?_
              refine Wk.iinc o_run_147 rfl (z := (v3 + (1 : Int32))) rfl (L' := [.val (.ref 0), .unset, .val (.int v2), .val (.int (v3 + (1 : Int32))), .val (.int ((A 4) (0 : Int32)))]) rfl ?_
              refine Wk.goto o_run_150 ?_
              refine Wk.forget [false, false, false, false, true] (L' := [.val (.ref 0), .unset, .val (.int v2), .val (.int (v3 + (1 : Int32))), .unset]) rfl rfl ?_
              exact (h32 q1 q3 q19 q21 q26 q30)
      · refine Wk.aloadN o_run_62 rfl ?_
        refine Wk.getI (mI_pos) (wf_pos H) o_run_63 (x := (F 8)) rfl ?_
        refine Wk.sipush o_run_66 (z := (128 : Int32)) (by decide) ?_
        refine Wk.icmp_lt o_run_69 (fun q33 => ?_) (fun q33 => ?_)
        · refine Wk.aloadN o_run_77 rfl ?_
          refine Wk.getA (mA_tickTask) (by decide) (i' := 5) rfl (wf_tickTask H) o_run_78 ?_
          refine Wk.aloadN o_run_81 rfl ?_
          refine Wk.getI (mI_pos) (wf_pos H) o_run_82 (x := (F 8)) rfl ?_
          refine Wk.iaload (mA_tickTask) (by decide) (i' := 5) rfl q3 q33 o_run_85 (y := ((A 4) (F 8))) rfl ?_
          refine Wk.istore o_run_86 (Or.inl rfl) (L' := [.val (.ref 0), .unset, .val (.int v2), .val (.int v3), .val (.int ((A 4) (F 8)))]) rfl ?_
          refine Wk.iload o_run_88 rfl ?_
          refine Wk.if_lt o_run_90 (fun q34 => ?_) (fun q34 => ?_)
          · refine Wk.aloadN o_run_111 rfl ?_
            refine Wk.dup o_run_112 rfl ?_
            refine Wk.getI (mI_now) (wf_now H) o_run_113 (x := (F 7)) rfl ?_
            refine Wk.iconst o_run_116 (z := (1 : Int32)) (by decide) ?_
            refine Wk.iadd o_run_117 ?_
            refine Wk.putI (coC H) (mI_now) (wf_now H) (Or.inl (wy_now H)) o_run_118 ?_
            refine Wk.aloadN o_run_121 rfl ?_
            refine Wk.dup o_run_122 rfl ?_
            refine Wk.getI (mI_pos) (wf_pos H) o_run_123 (x := (F 8)) rfl ?_
            refine Wk.iconst o_run_126 (z := (1 : Int32)) (by decide) ?_
            refine Wk.iadd o_run_127 ?_
            refine Wk.putI (coC H) (mI_pos) (wf_pos H) (Or.inl (wy_pos H)) o_run_128 ?_
            refine Wk.aloadN o_run_131 rfl ?_
            refine Wk.getI (mI_pos) (wf_pos H) o_run_132 (x := ((F 8) + (1 : Int32))) rfl ?_
            refine Wk.aloadN o_run_135 rfl ?_
            refine Wk.getI (mI_hyper) (wf_hyper H) o_run_136 (x := (F 3)) rfl ?_
            refine Wk.icmp_lt o_run_139 (fun q36 => ?_) (fun q36 => ?_)
            · refine Wk.iinc o_run_147 rfl (z := (v3 + (1 : Int32))) rfl (L' := [.val (.ref 0), .unset, .val (.int v2), .val (.int (v3 + (1 : Int32))), .val (.int ((A 4) (F 8)))]) rfl ?_
              refine Wk.goto o_run_150 ?_
              refine Wk.forget [false, false, false, false, true] (L' := [.val (.ref 0), .unset, .val (.int v2), .val (.int (v3 + (1 : Int32))), .unset]) rfl rfl ?_
              exact (h37 q1 q3 q19 q33 q34 q36)
            · refine Wk.aloadN o_run_142 rfl ?_
              refine Wk.iconst o_run_143 (z := (0 : Int32)) (by decide) ?_
              refine Wk.putI (coC H) (mI_pos) (wf_pos H) (Or.inl (wy_pos H)) o_run_144 ?_
              refine Wk.iinc o_run_147 rfl (z := (v3 + (1 : Int32))) rfl (L' := [.val (.ref 0), .unset, .val (.int v2), .val (.int (v3 + (1 : Int32))), .val (.int ((A 4) (F 8)))]) rfl ?_
              refine Wk.goto o_run_150 ?_
              refine Wk.forget [false, false, false, false, true] (L' := [.val (.ref 0), .unset, .val (.int v2), .val (.int (v3 + (1 : Int32))), .unset]) rfl rfl ?_
              exact (h38 q1 q3 q19 q33 q34 q36)
          · refine Wk.iload o_run_93 rfl ?_
            refine Wk.bipush o_run_95 (z := (8 : Int32)) (by decide) ?_
            refine Wk.icmp_ge o_run_97 (fun q39 => ?_) (fun q39 => ?_)
            · refine Wk.aloadN o_run_111 rfl ?_
              refine Wk.dup o_run_112 rfl ?_
              refine Wk.getI (mI_now) (wf_now H) o_run_113 (x := (F 7)) rfl ?_
              refine Wk.iconst o_run_116 (z := (1 : Int32)) (by decide) ?_
              refine Wk.iadd o_run_117 ?_
              refine Wk.putI (coC H) (mI_now) (wf_now H) (Or.inl (wy_now H)) o_run_118 ?_
              refine Wk.aloadN o_run_121 rfl ?_
              refine Wk.dup o_run_122 rfl ?_
              refine Wk.getI (mI_pos) (wf_pos H) o_run_123 (x := (F 8)) rfl ?_
              refine Wk.iconst o_run_126 (z := (1 : Int32)) (by decide) ?_
              refine Wk.iadd o_run_127 ?_
              refine Wk.putI (coC H) (mI_pos) (wf_pos H) (Or.inl (wy_pos H)) o_run_128 ?_
              refine Wk.aloadN o_run_131 rfl ?_
              refine Wk.getI (mI_pos) (wf_pos H) o_run_132 (x := ((F 8) + (1 : Int32))) rfl ?_
              refine Wk.aloadN o_run_135 rfl ?_
              refine Wk.getI (mI_hyper) (wf_hyper H) o_run_136 (x := (F 3)) rfl ?_
              refine Wk.icmp_lt o_run_139 (fun q40 => ?_) (fun q40 => ?_)
              · refine Wk.iinc o_run_147 rfl (z := (v3 + (1 : Int32))) rfl (L' := [.val (.ref 0), .unset, .val (.int v2), .val (.int (v3 + (1 : Int32))), .val (.int ((A 4) (F 8)))]) rfl ?_
                refine Wk.goto o_run_150 ?_
                refine Wk.forget [false, false, false, false, true] (L' := [.val (.ref 0), .unset, .val (.int v2), .val (.int (v3 + (1 : Int32))), .unset]) rfl rfl ?_
                exact (h41 q1 q3 q19 q33 q34 q39 q40)
              · refine Wk.aloadN o_run_142 rfl ?_
                refine Wk.iconst o_run_143 (z := (0 : Int32)) (by decide) ?_
                refine Wk.putI (coC H) (mI_pos) (wf_pos H) (Or.inl (wy_pos H)) o_run_144 ?_
                refine Wk.iinc o_run_147 rfl (z := (v3 + (1 : Int32))) rfl (L' := [.val (.ref 0), .unset, .val (.int v2), .val (.int (v3 + (1 : Int32))), .val (.int ((A 4) (F 8)))]) rfl ?_
                refine Wk.goto o_run_150 ?_
                refine Wk.forget [false, false, false, false, true] (L' := [.val (.ref 0), .unset, .val (.int v2), .val (.int (v3 + (1 : Int32))), .unset]) rfl rfl ?_
                exact (h42 q1 q3 q19 q33 q34 q39 q40)
            · refine Wk.aloadN o_run_100 rfl ?_
              refine Wk.getA (mA_runCnt) (by decide) (i' := 4) rfl (wf_runCnt H) o_run_101 ?_
              refine Wk.iload o_run_104 rfl ?_
              refine Wk.dup2 o_run_106 rfl rfl ?_
              refine Wk.iaload (mA_runCnt) (by decide) (i' := 4) rfl q34 q39 o_run_107 (y := ((A 3) ((A 4) (F 8)))) rfl ?_
              refine Wk.iconst o_run_108 (z := (1 : Int32)) (by decide) ?_
              refine Wk.iadd o_run_109 ?_
              refine Wk.iastore (coC H) (f := (A 3)) (mA_runCnt) rfl (by decide) (i' := 4) rfl q34 q39 o_run_110 ?_
              refine Wk.aloadN o_run_111 rfl ?_
              refine Wk.dup o_run_112 rfl ?_
              refine Wk.getI (mI_now) (wf_now H) o_run_113 (x := (F 7)) rfl ?_
              refine Wk.iconst o_run_116 (z := (1 : Int32)) (by decide) ?_
              refine Wk.iadd o_run_117 ?_
              refine Wk.putI (coC H) (mI_now) (wf_now H) (Or.inl (wy_now H)) o_run_118 ?_
              refine Wk.aloadN o_run_121 rfl ?_
              refine Wk.dup o_run_122 rfl ?_
              refine Wk.getI (mI_pos) (wf_pos H) o_run_123 (x := (F 8)) rfl ?_
              refine Wk.iconst o_run_126 (z := (1 : Int32)) (by decide) ?_
              refine Wk.iadd o_run_127 ?_
              refine Wk.putI (coC H) (mI_pos) (wf_pos H) (Or.inl (wy_pos H)) o_run_128 ?_
              refine Wk.aloadN o_run_131 rfl ?_
              refine Wk.getI (mI_pos) (wf_pos H) o_run_132 (x := ((F 8) + (1 : Int32))) rfl ?_
              refine Wk.aloadN o_run_135 rfl ?_
              refine Wk.getI (mI_hyper) (wf_hyper H) o_run_136 (x := (F 3)) rfl ?_
              refine Wk.icmp_lt o_run_139 (fun q43 => ?_) (fun q43 => ?_)
              · refine Wk.iinc o_run_147 rfl (z := (v3 + (1 : Int32))) rfl (L' := [.val (.ref 0), .unset, .val (.int v2), .val (.int (v3 + (1 : Int32))), .val (.int ((A 4) (F 8)))]) rfl ?_
                refine Wk.goto o_run_150 ?_
                refine Wk.forget [false, false, false, false, true] (L' := [.val (.ref 0), .unset, .val (.int v2), .val (.int (v3 + (1 : Int32))), .unset]) rfl rfl ?_
                exact (h44 q1 q3 q19 q33 q34 q39 q43)
              · refine Wk.aloadN o_run_142 rfl ?_
                refine Wk.iconst o_run_143 (z := (0 : Int32)) (by decide) ?_
                refine Wk.putI (coC H) (mI_pos) (wf_pos H) (Or.inl (wy_pos H)) o_run_144 ?_
                refine Wk.iinc o_run_147 rfl (z := (v3 + (1 : Int32))) rfl (L' := [.val (.ref 0), .unset, .val (.int v2), .val (.int (v3 + (1 : Int32))), .val (.int ((A 4) (F 8)))]) rfl ?_
                refine Wk.goto o_run_150 ?_
                refine Wk.forget [false, false, false, false, true] (L' := [.val (.ref 0), .unset, .val (.int v2), .val (.int (v3 + (1 : Int32))), .unset]) rfl rfl ?_
                exact (h45 q1 q3 q19 q33 q34 q39 q43)
        · refine Wk.aloadN o_run_72 rfl ?_
          refine Wk.iconst o_run_73 (z := (0 : Int32)) (by decide) ?_
          refine Wk.putI (coC H) (mI_pos) (wf_pos H) (Or.inl (wy_pos H)) o_run_74 ?_
          refine Wk.aloadN o_run_77 rfl ?_
          refine Wk.getA (mA_tickTask) (by decide) (i' := 5) rfl (wf_tickTask H) o_run_78 ?_
          refine Wk.aloadN o_run_81 rfl ?_
          refine Wk.getI (mI_pos) (wf_pos H) o_run_82 (x := (0 : Int32)) rfl ?_
          refine Wk.iaload (mA_tickTask) (by decide) (i' := 5) rfl (by decide) (by decide) o_run_85 (y := ((A 4) (0 : Int32))) rfl ?_
          refine Wk.istore o_run_86 (Or.inl rfl) (L' := [.val (.ref 0), .unset, .val (.int v2), .val (.int v3), .val (.int ((A 4) (0 : Int32)))]) rfl ?_
          refine Wk.iload o_run_88 rfl ?_
          refine Wk.if_lt o_run_90 (fun q46 => ?_) (fun q46 => ?_)
          · refine Wk.aloadN o_run_111 rfl ?_
            refine Wk.dup o_run_112 rfl ?_
            refine Wk.getI (mI_now) (wf_now H) o_run_113 (x := (F 7)) rfl ?_
            refine Wk.iconst o_run_116 (z := (1 : Int32)) (by decide) ?_
            refine Wk.iadd o_run_117 ?_
            refine Wk.putI (coC H) (mI_now) (wf_now H) (Or.inl (wy_now H)) o_run_118 ?_
            refine Wk.aloadN o_run_121 rfl ?_
            refine Wk.dup o_run_122 rfl ?_
            refine Wk.getI (mI_pos) (wf_pos H) o_run_123 (x := (0 : Int32)) rfl ?_
            refine Wk.iconst o_run_126 (z := (1 : Int32)) (by decide) ?_
            refine Wk.iadd o_run_127 ?_
            refine Wk.putI (coC H) (mI_pos) (wf_pos H) (Or.inl (wy_pos H)) o_run_128 ?_
            refine Wk.aloadN o_run_131 rfl ?_
            refine Wk.getI (mI_pos) (wf_pos H) o_run_132 (x := ((0 : Int32) + (1 : Int32))) rfl ?_
            refine Wk.aloadN o_run_135 rfl ?_
            refine Wk.getI (mI_hyper) (wf_hyper H) o_run_136 (x := (F 3)) rfl ?_
            refine Wk.icmp_lt o_run_139 (fun q48 => ?_) (fun q48 => ?_)
            · refine Wk.iinc o_run_147 rfl (z := (v3 + (1 : Int32))) rfl (L' := [.val (.ref 0), .unset, .val (.int v2), .val (.int (v3 + (1 : Int32))), .val (.int ((A 4) (0 : Int32)))]) rfl ?_
              refine Wk.goto o_run_150 ?_
              refine Wk.forget [false, false, false, false, true] (L' := [.val (.ref 0), .unset, .val (.int v2), .val (.int (v3 + (1 : Int32))), .unset]) rfl rfl ?_
              exact (h49 q1 q3 q19 q33 q46 q48)
            · refine Wk.aloadN o_run_142 rfl ?_
              refine Wk.iconst o_run_143 (z := (0 : Int32)) (by decide) ?_
              refine Wk.putI (coC H) (mI_pos) (wf_pos H) (Or.inl (wy_pos H)) o_run_144 ?_
              refine Wk.iinc o_run_147 rfl (z := (v3 + (1 : Int32))) rfl (L' := [.val (.ref 0), .unset, .val (.int v2), .val (.int (v3 + (1 : Int32))), .val (.int ((A 4) (0 : Int32)))]) rfl ?_
              refine Wk.goto o_run_150 ?_
              refine Wk.forget [false, false, false, false, true] (L' := [.val (.ref 0), .unset, .val (.int v2), .val (.int (v3 + (1 : Int32))), .unset]) rfl rfl ?_
              exact (h50 q1 q3 q19 q33 q46 q48)
          · refine Wk.iload o_run_93 rfl ?_
            refine Wk.bipush o_run_95 (z := (8 : Int32)) (by decide) ?_
            refine Wk.icmp_ge o_run_97 (fun q51 => ?_) (fun q51 => ?_)
            · refine Wk.aloadN o_run_111 rfl ?_
              refine Wk.dup o_run_112 rfl ?_
              refine Wk.getI (mI_now) (wf_now H) o_run_113 (x := (F 7)) rfl ?_
              refine Wk.iconst o_run_116 (z := (1 : Int32)) (by decide) ?_
              refine Wk.iadd o_run_117 ?_
              refine Wk.putI (coC H) (mI_now) (wf_now H) (Or.inl (wy_now H)) o_run_118 ?_
              refine Wk.aloadN o_run_121 rfl ?_
              refine Wk.dup o_run_122 rfl ?_
              refine Wk.getI (mI_pos) (wf_pos H) o_run_123 (x := (0 : Int32)) rfl ?_
              refine Wk.iconst o_run_126 (z := (1 : Int32)) (by decide) ?_
              refine Wk.iadd o_run_127 ?_
              refine Wk.putI (coC H) (mI_pos) (wf_pos H) (Or.inl (wy_pos H)) o_run_128 ?_
              refine Wk.aloadN o_run_131 rfl ?_
              refine Wk.getI (mI_pos) (wf_pos H) o_run_132 (x := ((0 : Int32) + (1 : Int32))) rfl ?_
              refine Wk.aloadN o_run_135 rfl ?_
              refine Wk.getI (mI_hyper) (wf_hyper H) o_run_136 (x := (F 3)) rfl ?_
              refine Wk.icmp_lt o_run_139 (fun q52 => ?_) (fun q52 => ?_)
              · refine Wk.iinc o_run_147 rfl (z := (v3 + (1 : Int32))) rfl (L' := [.val (.ref 0), .unset, .val (.int v2), .val (.int (v3 + (1 : Int32))), .val (.int ((A 4) (0 : Int32)))]) rfl ?_
                refine Wk.goto o_run_150 ?_
                refine Wk.forget [false, false, false, false, true] (L' := [.val (.ref 0), .unset, .val (.int v2), .val (.int (v3 + (1 : Int32))), .unset]) rfl rfl ?_
                exact (h53 q1 q3 q19 q33 q46 q51 q52)
              · refine Wk.aloadN o_run_142 rfl ?_
                refine Wk.iconst o_run_143 (z := (0 : Int32)) (by decide) ?_
                refine Wk.putI (coC H) (mI_pos) (wf_pos H) (Or.inl (wy_pos H)) o_run_144 ?_
                refine Wk.iinc o_run_147 rfl (z := (v3 + (1 : Int32))) rfl (L' := [.val (.ref 0), .unset, .val (.int v2), .val (.int (v3 + (1 : Int32))), .val (.int ((A 4) (0 : Int32)))]) rfl ?_
                refine Wk.goto o_run_150 ?_
                refine Wk.forget [false, false, false, false, true] (L' := [.val (.ref 0), .unset, .val (.int v2), .val (.int (v3 + (1 : Int32))), .unset]) rfl rfl ?_
                exact (h54 q1 q3 q19 q33 q46 q51 q52)
            · refine Wk.aloadN o_run_100 rfl ?_
              refine Wk.getA (mA_runCnt) (by decide) (i' := 4) rfl (wf_runCnt H) o_run_101 ?_
              refine Wk.iload o_run_104 rfl ?_
              refine Wk.dup2 o_run_106 rfl rfl ?_
              refine Wk.iaload (mA_runCnt) (by decide) (i' := 4) rfl q46 q51 o_run_107 (y := ((A 3) ((A 4) (0 : Int32)))) rfl ?_
              refine Wk.iconst o_run_108 (z := (1 : Int32)) (by decide) ?_
              refine Wk.iadd o_run_109 ?_
              refine Wk.iastore (coC H) (f := (A 3)) (mA_runCnt) rfl (by decide) (i' := 4) rfl q46 q51 o_run_110 ?_
              refine Wk.aloadN o_run_111 rfl ?_
              refine Wk.dup o_run_112 rfl ?_
              refine Wk.getI (mI_now) (wf_now H) o_run_113 (x := (F 7)) rfl ?_
              refine Wk.iconst o_run_116 (z := (1 : Int32)) (by decide) ?_
              refine Wk.iadd o_run_117 ?_
              refine Wk.putI (coC H) (mI_now) (wf_now H) (Or.inl (wy_now H)) o_run_118 ?_
              refine Wk.aloadN o_run_121 rfl ?_
              refine Wk.dup o_run_122 rfl ?_
              refine Wk.getI (mI_pos) (wf_pos H) o_run_123 (x := (0 : Int32)) rfl ?_
              refine Wk.iconst o_run_126 (z := (1 : Int32)) (by decide) ?_
              refine Wk.iadd o_run_127 ?_
              refine Wk.putI (coC H) (mI_pos) (wf_pos H) (Or.inl (wy_pos H)) o_run_128 ?_
              refine Wk.aloadN o_run_131 rfl ?_
              refine Wk.getI (mI_pos) (wf_pos H) o_run_132 (x := ((0 : Int32) + (1 : Int32))) rfl ?_
              refine Wk.aloadN o_run_135 rfl ?_
              refine Wk.getI (mI_hyper) (wf_hyper H) o_run_136 (x := (F 3)) rfl ?_
              refine Wk.icmp_lt o_run_139 (fun q55 => ?_) (fun q55 => ?_)
              · refine Wk.iinc o_run_147 rfl (z := (v3 + (1 : Int32))) rfl (L' := [.val (.ref 0), .unset, .val (.int v2), .val (.int (v3 + (1 : Int32))), .val (.int ((A 4) (0 : Int32)))]) rfl ?_
                refine Wk.goto o_run_150 ?_
                refine Wk.forget [false, false, false, false, true] (L' := [.val (.ref 0), .unset, .val (.int v2), .val (.int (v3 + (1 : Int32))), .unset]) rfl rfl ?_
                exact (h56 q1 q3 q19 q33 q46 q51 q55)
              · refine Wk.aloadN o_run_142 rfl ?_
                refine Wk.iconst o_run_143 (z := (0 : Int32)) (by decide) ?_
                refine Wk.putI (coC H) (mI_pos) (wf_pos H) (Or.inl (wy_pos H)) o_run_144 ?_
                refine Wk.iinc o_run_147 rfl (z := (v3 + (1 : Int32))) rfl (L' := [.val (.ref 0), .unset, .val (.int v2), .val (.int (v3 + (1 : Int32))), .val (.int ((A 4) (0 : Int32)))]) rfl ?_
                refine Wk.goto o_run_150 ?_
                refine Wk.forget [false, false, false, false, true] (L' := [.val (.ref 0), .unset, .val (.int v2), .val (.int (v3 + (1 : Int32))), .unset]) rfl rfl ?_
                exact (h57 q1 q3 q19 q33 q46 q51 q55)

theorem rt_run (G : Nat → Int64) (B : Nat → Int32 → Int64) (v0 : Int32) (xF : Nat → Int32) (xA : Nat → Int32 → Int32) (r : Int32 × (Nat → Int32) × (Nat → Int32 → Int32)) (e : (v0, xF, xA) = r) : some (Value.int v0) = some (.int r.1) ∧ (7, xF, G, xA, B) = (7, r.2.1, G, r.2.2, B) := by subst e; exact ⟨rfl, rfl⟩
def lp_run : Nat → Nat → Int32 → Int32 → (Nat → Int32) → (Nat → Int32 → Int32) → Option (Int32 × (Nat → Int32) × (Nat → Int32 → Int32))
  | 0, _, _, _, _, _ => none
  | n + 1, tag, v2, v3, F, A => if tag = 39 then (if v3 < v2 then (if (F 8) < 0 then (if ((A 4) (0 : Int32)) < 0 then (if ((0 : Int32) + (1 : Int32)) < (F 3) then lp_run n 39 v2 (v3 + (1 : Int32)) (ups (ups (ups F 8 (0 : Int32)) 7 ((F 7) + (1 : Int32))) 8 ((0 : Int32) + (1 : Int32))) A else lp_run n 39 v2 (v3 + (1 : Int32)) (ups (ups (ups (ups F 8 (0 : Int32)) 7 ((F 7) + (1 : Int32))) 8 ((0 : Int32) + (1 : Int32))) 8 (0 : Int32)) A) else (if ((A 4) (0 : Int32)) < (8 : Int32) then (if ((0 : Int32) + (1 : Int32)) < (F 3) then lp_run n 39 v2 (v3 + (1 : Int32)) (ups (ups (ups F 8 (0 : Int32)) 7 ((F 7) + (1 : Int32))) 8 ((0 : Int32) + (1 : Int32))) (ups A 3 (ups (A 3) ((A 4) (0 : Int32)) (((A 3) ((A 4) (0 : Int32))) + (1 : Int32)))) else lp_run n 39 v2 (v3 + (1 : Int32)) (ups (ups (ups (ups F 8 (0 : Int32)) 7 ((F 7) + (1 : Int32))) 8 ((0 : Int32) + (1 : Int32))) 8 (0 : Int32)) (ups A 3 (ups (A 3) ((A 4) (0 : Int32)) (((A 3) ((A 4) (0 : Int32))) + (1 : Int32))))) else (if ((0 : Int32) + (1 : Int32)) < (F 3) then lp_run n 39 v2 (v3 + (1 : Int32)) (ups (ups (ups F 8 (0 : Int32)) 7 ((F 7) + (1 : Int32))) 8 ((0 : Int32) + (1 : Int32))) A else lp_run n 39 v2 (v3 + (1 : Int32)) (ups (ups (ups (ups F 8 (0 : Int32)) 7 ((F 7) + (1 : Int32))) 8 ((0 : Int32) + (1 : Int32))) 8 (0 : Int32)) A))) else (if (F 8) < (F 3) then (if (F 8) < (128 : Int32) then (if ((A 4) (F 8)) < 0 then (if ((F 8) + (1 : Int32)) < (F 3) then lp_run n 39 v2 (v3 + (1 : Int32)) (ups (ups F 7 ((F 7) + (1 : Int32))) 8 ((F 8) + (1 : Int32))) A else lp_run n 39 v2 (v3 + (1 : Int32)) (ups (ups (ups F 7 ((F 7) + (1 : Int32))) 8 ((F 8) + (1 : Int32))) 8 (0 : Int32)) A) else (if ((A 4) (F 8)) < (8 : Int32) then (if ((F 8) + (1 : Int32)) < (F 3) then lp_run n 39 v2 (v3 + (1 : Int32)) (ups (ups F 7 ((F 7) + (1 : Int32))) 8 ((F 8) + (1 : Int32))) (ups A 3 (ups (A 3) ((A 4) (F 8)) (((A 3) ((A 4) (F 8))) + (1 : Int32)))) else lp_run n 39 v2 (v3 + (1 : Int32)) (ups (ups (ups F 7 ((F 7) + (1 : Int32))) 8 ((F 8) + (1 : Int32))) 8 (0 : Int32)) (ups A 3 (ups (A 3) ((A 4) (F 8)) (((A 3) ((A 4) (F 8))) + (1 : Int32))))) else (if ((F 8) + (1 : Int32)) < (F 3) then lp_run n 39 v2 (v3 + (1 : Int32)) (ups (ups F 7 ((F 7) + (1 : Int32))) 8 ((F 8) + (1 : Int32))) A else lp_run n 39 v2 (v3 + (1 : Int32)) (ups (ups (ups F 7 ((F 7) + (1 : Int32))) 8 ((F 8) + (1 : Int32))) 8 (0 : Int32)) A))) else (if ((A 4) (0 : Int32)) < 0 then (if ((0 : Int32) + (1 : Int32)) < (F 3) then lp_run n 39 v2 (v3 + (1 : Int32)) (ups (ups (ups F 8 (0 : Int32)) 7 ((F 7) + (1 : Int32))) 8 ((0 : Int32) + (1 : Int32))) A else lp_run n 39 v2 (v3 + (1 : Int32)) (ups (ups (ups (ups F 8 (0 : Int32)) 7 ((F 7) + (1 : Int32))) 8 ((0 : Int32) + (1 : Int32))) 8 (0 : Int32)) A) else (if ((A 4) (0 : Int32)) < (8 : Int32) then (if ((0 : Int32) + (1 : Int32)) < (F 3) then lp_run n 39 v2 (v3 + (1 : Int32)) (ups (ups (ups F 8 (0 : Int32)) 7 ((F 7) + (1 : Int32))) 8 ((0 : Int32) + (1 : Int32))) (ups A 3 (ups (A 3) ((A 4) (0 : Int32)) (((A 3) ((A 4) (0 : Int32))) + (1 : Int32)))) else lp_run n 39 v2 (v3 + (1 : Int32)) (ups (ups (ups (ups F 8 (0 : Int32)) 7 ((F 7) + (1 : Int32))) 8 ((0 : Int32) + (1 : Int32))) 8 (0 : Int32)) (ups A 3 (ups (A 3) ((A 4) (0 : Int32)) (((A 3) ((A 4) (0 : Int32))) + (1 : Int32))))) else (if ((0 : Int32) + (1 : Int32)) < (F 3) then lp_run n 39 v2 (v3 + (1 : Int32)) (ups (ups (ups F 8 (0 : Int32)) 7 ((F 7) + (1 : Int32))) 8 ((0 : Int32) + (1 : Int32))) A else lp_run n 39 v2 (v3 + (1 : Int32)) (ups (ups (ups (ups F 8 (0 : Int32)) 7 ((F 7) + (1 : Int32))) 8 ((0 : Int32) + (1 : Int32))) 8 (0 : Int32)) A)))) else (if ((A 4) (0 : Int32)) < 0 then (if ((0 : Int32) + (1 : Int32)) < (F 3) then lp_run n 39 v2 (v3 + (1 : Int32)) (ups (ups (ups F 8 (0 : Int32)) 7 ((F 7) + (1 : Int32))) 8 ((0 : Int32) + (1 : Int32))) A else lp_run n 39 v2 (v3 + (1 : Int32)) (ups (ups (ups (ups F 8 (0 : Int32)) 7 ((F 7) + (1 : Int32))) 8 ((0 : Int32) + (1 : Int32))) 8 (0 : Int32)) A) else (if ((A 4) (0 : Int32)) < (8 : Int32) then (if ((0 : Int32) + (1 : Int32)) < (F 3) then lp_run n 39 v2 (v3 + (1 : Int32)) (ups (ups (ups F 8 (0 : Int32)) 7 ((F 7) + (1 : Int32))) 8 ((0 : Int32) + (1 : Int32))) (ups A 3 (ups (A 3) ((A 4) (0 : Int32)) (((A 3) ((A 4) (0 : Int32))) + (1 : Int32)))) else lp_run n 39 v2 (v3 + (1 : Int32)) (ups (ups (ups (ups F 8 (0 : Int32)) 7 ((F 7) + (1 : Int32))) 8 ((0 : Int32) + (1 : Int32))) 8 (0 : Int32)) (ups A 3 (ups (A 3) ((A 4) (0 : Int32)) (((A 3) ((A 4) (0 : Int32))) + (1 : Int32))))) else (if ((0 : Int32) + (1 : Int32)) < (F 3) then lp_run n 39 v2 (v3 + (1 : Int32)) (ups (ups (ups F 8 (0 : Int32)) 7 ((F 7) + (1 : Int32))) 8 ((0 : Int32) + (1 : Int32))) A else lp_run n 39 v2 (v3 + (1 : Int32)) (ups (ups (ups (ups F 8 (0 : Int32)) 7 ((F 7) + (1 : Int32))) 8 ((0 : Int32) + (1 : Int32))) 8 (0 : Int32)) A))))) else some (v2, F, A)) else none
theorem lp_run_z (tag : Nat) (v2 : Int32) (v3 : Int32) (F : Nat → Int32) (A : Nat → Int32 → Int32) : lp_run 0 tag v2 v3 F A = none := Eq.trans rfl rfl
theorem lp_run_39 (n : Nat) (v2 : Int32) (v3 : Int32) (F : Nat → Int32) (A : Nat → Int32 → Int32) : lp_run (n + 1) 39 v2 v3 F A = (if v3 < v2 then (if (F 8) < 0 then (if ((A 4) (0 : Int32)) < 0 then (if ((0 : Int32) + (1 : Int32)) < (F 3) then lp_run n 39 v2 (v3 + (1 : Int32)) (ups (ups (ups F 8 (0 : Int32)) 7 ((F 7) + (1 : Int32))) 8 ((0 : Int32) + (1 : Int32))) A else lp_run n 39 v2 (v3 + (1 : Int32)) (ups (ups (ups (ups F 8 (0 : Int32)) 7 ((F 7) + (1 : Int32))) 8 ((0 : Int32) + (1 : Int32))) 8 (0 : Int32)) A) else (if ((A 4) (0 : Int32)) < (8 : Int32) then (if ((0 : Int32) + (1 : Int32)) < (F 3) then lp_run n 39 v2 (v3 + (1 : Int32)) (ups (ups (ups F 8 (0 : Int32)) 7 ((F 7) + (1 : Int32))) 8 ((0 : Int32) + (1 : Int32))) (ups A 3 (ups (A 3) ((A 4) (0 : Int32)) (((A 3) ((A 4) (0 : Int32))) + (1 : Int32)))) else lp_run n 39 v2 (v3 + (1 : Int32)) (ups (ups (ups (ups F 8 (0 : Int32)) 7 ((F 7) + (1 : Int32))) 8 ((0 : Int32) + (1 : Int32))) 8 (0 : Int32)) (ups A 3 (ups (A 3) ((A 4) (0 : Int32)) (((A 3) ((A 4) (0 : Int32))) + (1 : Int32))))) else (if ((0 : Int32) + (1 : Int32)) < (F 3) then lp_run n 39 v2 (v3 + (1 : Int32)) (ups (ups (ups F 8 (0 : Int32)) 7 ((F 7) + (1 : Int32))) 8 ((0 : Int32) + (1 : Int32))) A else lp_run n 39 v2 (v3 + (1 : Int32)) (ups (ups (ups (ups F 8 (0 : Int32)) 7 ((F 7) + (1 : Int32))) 8 ((0 : Int32) + (1 : Int32))) 8 (0 : Int32)) A))) else (if (F 8) < (F 3) then (if (F 8) < (128 : Int32) then (if ((A 4) (F 8)) < 0 then (if ((F 8) + (1 : Int32)) < (F 3) then lp_run n 39 v2 (v3 + (1 : Int32)) (ups (ups F 7 ((F 7) + (1 : Int32))) 8 ((F 8) + (1 : Int32))) A else lp_run n 39 v2 (v3 + (1 : Int32)) (ups (ups (ups F 7 ((F 7) + (1 : Int32))) 8 ((F 8) + (1 : Int32))) 8 (0 : Int32)) A) else (if ((A 4) (F 8)) < (8 : Int32) then (if ((F 8) + (1 : Int32)) < (F 3) then lp_run n 39 v2 (v3 + (1 : Int32)) (ups (ups F 7 ((F 7) + (1 : Int32))) 8 ((F 8) + (1 : Int32))) (ups A 3 (ups (A 3) ((A 4) (F 8)) (((A 3) ((A 4) (F 8))) + (1 : Int32)))) else lp_run n 39 v2 (v3 + (1 : Int32)) (ups (ups (ups F 7 ((F 7) + (1 : Int32))) 8 ((F 8) + (1 : Int32))) 8 (0 : Int32)) (ups A 3 (ups (A 3) ((A 4) (F 8)) (((A 3) ((A 4) (F 8))) + (1 : Int32))))) else (if ((F 8) + (1 : Int32)) < (F 3) then lp_run n 39 v2 (v3 + (1 : Int32)) (ups (ups F 7 ((F 7) + (1 : Int32))) 8 ((F 8) + (1 : Int32))) A else lp_run n 39 v2 (v3 + (1 : Int32)) (ups (ups (ups F 7 ((F 7) + (1 : Int32))) 8 ((F 8) + (1 : Int32))) 8 (0 : Int32)) A))) else (if ((A 4) (0 : Int32)) < 0 then (if ((0 : Int32) + (1 : Int32)) < (F 3) then lp_run n 39 v2 (v3 + (1 : Int32)) (ups (ups (ups F 8 (0 : Int32)) 7 ((F 7) + (1 : Int32))) 8 ((0 : Int32) + (1 : Int32))) A else lp_run n 39 v2 (v3 + (1 : Int32)) (ups (ups (ups (ups F 8 (0 : Int32)) 7 ((F 7) + (1 : Int32))) 8 ((0 : Int32) + (1 : Int32))) 8 (0 : Int32)) A) else (if ((A 4) (0 : Int32)) < (8 : Int32) then (if ((0 : Int32) + (1 : Int32)) < (F 3) then lp_run n 39 v2 (v3 + (1 : Int32)) (ups (ups (ups F 8 (0 : Int32)) 7 ((F 7) + (1 : Int32))) 8 ((0 : Int32) + (1 : Int32))) (ups A 3 (ups (A 3) ((A 4) (0 : Int32)) (((A 3) ((A 4) (0 : Int32))) + (1 : Int32)))) else lp_run n 39 v2 (v3 + (1 : Int32)) (ups (ups (ups (ups F 8 (0 : Int32)) 7 ((F 7) + (1 : Int32))) 8 ((0 : Int32) + (1 : Int32))) 8 (0 : Int32)) (ups A 3 (ups (A 3) ((A 4) (0 : Int32)) (((A 3) ((A 4) (0 : Int32))) + (1 : Int32))))) else (if ((0 : Int32) + (1 : Int32)) < (F 3) then lp_run n 39 v2 (v3 + (1 : Int32)) (ups (ups (ups F 8 (0 : Int32)) 7 ((F 7) + (1 : Int32))) 8 ((0 : Int32) + (1 : Int32))) A else lp_run n 39 v2 (v3 + (1 : Int32)) (ups (ups (ups (ups F 8 (0 : Int32)) 7 ((F 7) + (1 : Int32))) 8 ((0 : Int32) + (1 : Int32))) 8 (0 : Int32)) A)))) else (if ((A 4) (0 : Int32)) < 0 then (if ((0 : Int32) + (1 : Int32)) < (F 3) then lp_run n 39 v2 (v3 + (1 : Int32)) (ups (ups (ups F 8 (0 : Int32)) 7 ((F 7) + (1 : Int32))) 8 ((0 : Int32) + (1 : Int32))) A else lp_run n 39 v2 (v3 + (1 : Int32)) (ups (ups (ups (ups F 8 (0 : Int32)) 7 ((F 7) + (1 : Int32))) 8 ((0 : Int32) + (1 : Int32))) 8 (0 : Int32)) A) else (if ((A 4) (0 : Int32)) < (8 : Int32) then (if ((0 : Int32) + (1 : Int32)) < (F 3) then lp_run n 39 v2 (v3 + (1 : Int32)) (ups (ups (ups F 8 (0 : Int32)) 7 ((F 7) + (1 : Int32))) 8 ((0 : Int32) + (1 : Int32))) (ups A 3 (ups (A 3) ((A 4) (0 : Int32)) (((A 3) ((A 4) (0 : Int32))) + (1 : Int32)))) else lp_run n 39 v2 (v3 + (1 : Int32)) (ups (ups (ups (ups F 8 (0 : Int32)) 7 ((F 7) + (1 : Int32))) 8 ((0 : Int32) + (1 : Int32))) 8 (0 : Int32)) (ups A 3 (ups (A 3) ((A 4) (0 : Int32)) (((A 3) ((A 4) (0 : Int32))) + (1 : Int32))))) else (if ((0 : Int32) + (1 : Int32)) < (F 3) then lp_run n 39 v2 (v3 + (1 : Int32)) (ups (ups (ups F 8 (0 : Int32)) 7 ((F 7) + (1 : Int32))) 8 ((0 : Int32) + (1 : Int32))) A else lp_run n 39 v2 (v3 + (1 : Int32)) (ups (ups (ups (ups F 8 (0 : Int32)) 7 ((F 7) + (1 : Int32))) 8 ((0 : Int32) + (1 : Int32))) 8 (0 : Int32)) A))))) else some (v2, F, A)) := by
  rw [lp_run, if_pos rfl]
set_option maxRecDepth 65536 in
set_option maxHeartbeats 4000000 in
theorem lpw_run {l : Launch} {Z : State} {a0 : Array Value} (H : OK Z a0) (G : Nat → Int64) (B : Nat → Int32 → Int64) : ∀ (n : Nat) (v2 : Int32) (v3 : Int32) (F : Nat → Int32) (A : Nat → Int32 → Int32) (r : Int32 × (Nat → Int32) × (Nat → Int32 → Int32)), (lp_run n 39 v2 v3 F A = some r → Wk l Z (MoC Z cdC) md_run 39 [.val (.ref 0), .unset, .val (.int v2), .val (.int v3), .unset] [] (7, F, G, A, B) 0 0 (fun v w' => v = some (.int r.1) ∧ w' = (7, r.2.1, G, r.2.2, B))) := by
  intro n
  induction n with
  | zero =>
    intro v2 v3 F A r
    exact (fun h => by rw [lp_run_z] at h; cases h)
  | succ n ih =>
    intro v2 v3 F A r
    refine fun h => ?_
    · rw [lp_run_39] at h
      exact wp_run_39 H F G A B v2 v3 (fun q1 => (rt_run _ _ _ _ _ r (Option.some.inj (ifn q1 h)))) (fun q1 q3 q7 q9 => (ih _ _ _ _ _) (ifp q9 (ifp q7 (ifp q3 (ifp q1 h))))) (fun q1 q3 q7 q9 => (ih _ _ _ _ _) (ifn q9 (ifp q7 (ifp q3 (ifp q1 h))))) (fun q1 q3 q7 q12 q13 => (ih _ _ _ _ _) (ifp q13 (ifn q12 (ifn q7 (ifp q3 (ifp q1 h)))))) (fun q1 q3 q7 q12 q13 => (ih _ _ _ _ _) (ifn q13 (ifn q12 (ifn q7 (ifp q3 (ifp q1 h)))))) (fun q1 q3 q7 q12 q16 => (ih _ _ _ _ _) (ifp q16 (ifp q12 (ifn q7 (ifp q3 (ifp q1 h)))))) (fun q1 q3 q7 q12 q16 => (ih _ _ _ _ _) (ifn q16 (ifp q12 (ifn q7 (ifp q3 (ifp q1 h)))))) (fun q1 q3 q19 q21 q23 => (ih _ _ _ _ _) (ifp q23 (ifp q21 (ifn q19 (ifn q3 (ifp q1 h)))))) (fun q1 q3 q19 q21 q23 => (ih _ _ _ _ _) (ifn q23 (ifp q21 (ifn q19 (ifn q3 (ifp q1 h)))))) (fun q1 q3 q19 q21 q26 q27 => (ih _ _ _ _ _) (ifp q27 (ifn q26 (ifn q21 (ifn q19 (ifn q3 (ifp q1 h))))))) (fun q1 q3 q19 q21 q26 q27 => (ih _ _ _ _ _) (ifn q27 (ifn q26 (ifn q21 (ifn q19 (ifn q3 (ifp q1 h))))))) (fun q1 q3 q19 q21 q26 q30 => (ih _ _ _ _ _) (ifp q30 (ifp q26 (ifn q21 (ifn q19 (ifn q3 (ifp q1 h))))))) (fun q1 q3 q19 q21 q26 q30 => (ih _ _ _ _ _) (ifn q30 (ifp q26 (ifn q21 (ifn q19 (ifn q3 (ifp q1 h))))))) (fun q1 q3 q19 q33 q34 q36 => (ih _ _ _ _ _) (ifp q36 (ifp q34 (ifp q33 (ifp q19 (ifn q3 (ifp q1 h))))))) (fun q1 q3 q19 q33 q34 q36 => (ih _ _ _ _ _) (ifn q36 (ifp q34 (ifp q33 (ifp q19 (ifn q3 (ifp q1 h))))))) (fun q1 q3 q19 q33 q34 q39 q40 => (ih _ _ _ _ _) (ifp q40 (ifn q39 (ifn q34 (ifp q33 (ifp q19 (ifn q3 (ifp q1 h)))))))) (fun q1 q3 q19 q33 q34 q39 q40 => (ih _ _ _ _ _) (ifn q40 (ifn q39 (ifn q34 (ifp q33 (ifp q19 (ifn q3 (ifp q1 h)))))))) (fun q1 q3 q19 q33 q34 q39 q43 => (ih _ _ _ _ _) (ifp q43 (ifp q39 (ifn q34 (ifp q33 (ifp q19 (ifn q3 (ifp q1 h)))))))) (fun q1 q3 q19 q33 q34 q39 q43 => (ih _ _ _ _ _) (ifn q43 (ifp q39 (ifn q34 (ifp q33 (ifp q19 (ifn q3 (ifp q1 h)))))))) (fun q1 q3 q19 q33 q46 q48 => (ih _ _ _ _ _) (ifp q48 (ifp q46 (ifn q33 (ifp q19 (ifn q3 (ifp q1 h))))))) (fun q1 q3 q19 q33 q46 q48 => (ih _ _ _ _ _) (ifn q48 (ifp q46 (ifn q33 (ifp q19 (ifn q3 (ifp q1 h))))))) (fun q1 q3 q19 q33 q46 q51 q52 => (ih _ _ _ _ _) (ifp q52 (ifn q51 (ifn q46 (ifn q33 (ifp q19 (ifn q3 (ifp q1 h)))))))) (fun q1 q3 q19 q33 q46 q51 q52 => (ih _ _ _ _ _) (ifn q52 (ifn q51 (ifn q46 (ifn q33 (ifp q19 (ifn q3 (ifp q1 h)))))))) (fun q1 q3 q19 q33 q46 q51 q55 => (ih _ _ _ _ _) (ifp q55 (ifp q51 (ifn q46 (ifn q33 (ifp q19 (ifn q3 (ifp q1 h)))))))) (fun q1 q3 q19 q33 q46 q51 q55 => (ih _ _ _ _ _) (ifn q55 (ifp q51 (ifn q46 (ifn q33 (ifp q19 (ifn q3 (ifp q1 h))))))))
def en_run (F : Nat → Int32) (A : Nat → Int32 → Int32) (p1 : Int32) : Option (Int32 × (Nat → Int32) × (Nat → Int32 → Int32)) := (if (F 4) = 0 then some ((0 : Int32), F, A) else (if p1 < (1 : Int32) then some ((0 : Int32), F, A) else (if (F 3) < (1 : Int32) then some ((0 : Int32), F, A) else lp_run 5000 39 (if p1 < (4096 : Int32) then p1 else (4096 : Int32)) (0 : Int32) F A)))
theorem een_run (F : Nat → Int32) (A : Nat → Int32 → Int32) (p1 : Int32) : en_run F A p1 = (if (F 4) = 0 then some ((0 : Int32), F, A) else (if p1 < (1 : Int32) then some ((0 : Int32), F, A) else (if (F 3) < (1 : Int32) then some ((0 : Int32), F, A) else lp_run 5000 39 (if p1 < (4096 : Int32) then p1 else (4096 : Int32)) (0 : Int32) F A))) := Eq.trans rfl rfl
def R_run (F : Nat → Int32) (A : Nat → Int32 → Int32) (p1 : Int32) : Int32 × (Nat → Int32) × (Nat → Int32 → Int32) := (en_run F A p1).getD (0, (fun _ => 0), (fun _ _ => 0))
theorem eR_run (F : Nat → Int32) (A : Nat → Int32 → Int32) (p1 : Int32) : R_run F A p1 = (en_run F A p1).getD (0, (fun _ => 0), (fun _ _ => 0)) := Eq.trans rfl rfl
set_option maxRecDepth 65536 in
set_option maxHeartbeats 4000000 in
theorem run_run {l : Launch} {Z : State} {a0 : Array Value} (H : OK Z a0) (F : Nat → Int32) (G : Nat → Int64) (A : Nat → Int32 → Int32) (B : Nat → Int32 → Int64) (p1 : Int32) (e1 : (en_run F A p1).isSome = true) :
    Wk l Z (MoC Z cdC) md_run 0 [.val (.ref 0), .val (.int p1), .unset, .unset, .unset] [] (7, F, G, A, B) 0 0 (fun v w' => v = some (.int (R_run F A p1).1) ∧ w' = (7, (R_run F A p1).2.1, G, (R_run F A p1).2.2, B)) := by
  obtain ⟨r, h⟩ := Option.isSome_iff_exists.mp e1
  have e : R_run F A p1 = r := (eR_run F A p1).trans (getD_some h)
  rw [e]
  rw [een_run] at h
  exact wp_run H F G A B p1 (fun q1 => (rt_run _ _ _ _ _ r (Option.some.inj (ifp q1 h)))) (fun q1 q3 => (rt_run _ _ _ _ _ r (Option.some.inj (ifp q3 (ifn q1 h))))) (fun q1 q3 q5 => (lpw_run H G B _ _ _ _ _ _) (ifn q5 (ifn q3 (ifn q1 h)))) (fun q1 q3 q5 => (rt_run _ _ _ _ _ r (Option.some.inj (ifp q5 (ifn q3 (ifn q1 h))))))
set_option maxRecDepth 65536 in
set_option maxHeartbeats 4000000 in
theorem wp_getFrame {l : Launch} {Z : State} {a0 : Array Value} (H : OK Z a0) (F : Nat → Int32) (G : Nat → Int64) (A : Nat → Int32 → Int32) (B : Nat → Int32 → Int64) {Q : Option Value → WO → Prop} (h3 : Q (some (.int (if (F 4) = 0 then (0 : Int32) else (F 5)))) (7, F, G, A, B)) :
    Wk l Z (MoC Z cdC) md_getFrame 0 [.val (.ref 0)] [] (7, F, G, A, B) 0 0 Q := by
  refine Wk.aloadN o_getFrame_0 rfl ?_
  refine Wk.getI (mI_present) (wf_present H) o_getFrame_1 (x := (F 4)) rfl ?_
  have J2 : Wk l Z (MoC Z cdC) md_getFrame 15 [.val (.ref 0)] [.int (if (F 4) = 0 then (0 : Int32) else (F 5))] (7, F, G, A, B) 0 0 Q := by
    exact Wk.ireturn mrC rfl o_getFrame_15 rfl (by decide) (by decide) h3
  refine Wk.if_eq o_getFrame_4 (fun q1 => ?_) (fun q1 => ?_)
  · refine Wk.iconst o_getFrame_14 (z := (0 : Int32)) (by decide) ?_
    first | (rw [show ((if (F 4) = 0 then (0 : Int32) else (F 5)) : Int32) = (0 : Int32) from if_pos q1] at J2; exact J2) | exact J2 | (simp only [if_pos q1] at J2 ⊢; exact J2)
  · refine Wk.aloadN o_getFrame_7 rfl ?_
    refine Wk.getI (mI_frame) (wf_frame H) o_getFrame_8 (x := (F 5)) rfl ?_
    refine Wk.goto o_getFrame_11 ?_
    first | (rw [show ((if (F 4) = 0 then (0 : Int32) else (F 5)) : Int32) = (F 5) from if_neg q1] at J2; exact J2) | exact J2 | (simp only [if_neg q1] at J2 ⊢; exact J2)

def f_getFrame (F : Nat → Int32) : Int32 := (if (F 4) = 0 then (0 : Int32) else (F 5))
theorem e_getFrame (F : Nat → Int32) : f_getFrame F = (if (F 4) = 0 then (0 : Int32) else (F 5)) := Eq.trans rfl rfl
theorem run_getFrame {l : Launch} {Z : State} {a0 : Array Value} (H : OK Z a0) (F : Nat → Int32) (G : Nat → Int64) (A : Nat → Int32 → Int32) (B : Nat → Int32 → Int64) :
    Wk l Z (MoC Z cdC) md_getFrame 0 [.val (.ref 0)] [] (7, F, G, A, B) 0 0 (fun v w' => v = some (.int (f_getFrame F)) ∧ w' = (7, F, G, A, B)) :=
  wp_getFrame H F G A B ⟨rfl, rfl⟩
set_option maxRecDepth 65536 in
set_option maxHeartbeats 4000000 in
theorem wp_getHyperperiod {l : Launch} {Z : State} {a0 : Array Value} (H : OK Z a0) (F : Nat → Int32) (G : Nat → Int64) (A : Nat → Int32 → Int32) (B : Nat → Int32 → Int64) {Q : Option Value → WO → Prop} (h3 : Q (some (.int (if (F 2) = 0 then (0 : Int32) else (F 3)))) (7, F, G, A, B)) :
    Wk l Z (MoC Z cdC) md_getHyperperiod 0 [.val (.ref 0)] [] (7, F, G, A, B) 0 0 Q := by
  refine Wk.aloadN o_getHyperperiod_0 rfl ?_
  refine Wk.getI (mI_count) (wf_count H) o_getHyperperiod_1 (x := (F 2)) rfl ?_
  have J2 : Wk l Z (MoC Z cdC) md_getHyperperiod 15 [.val (.ref 0)] [.int (if (F 2) = 0 then (0 : Int32) else (F 3))] (7, F, G, A, B) 0 0 Q := by
    exact Wk.ireturn mrC rfl o_getHyperperiod_15 rfl (by decide) (by decide) h3
  refine Wk.if_ne o_getHyperperiod_4 (fun q1 => ?_) (fun q1 => ?_)
  · refine Wk.aloadN o_getHyperperiod_11 rfl ?_
    refine Wk.getI (mI_hyper) (wf_hyper H) o_getHyperperiod_12 (x := (F 3)) rfl ?_
    first | (rw [show ((if (F 2) = 0 then (0 : Int32) else (F 3)) : Int32) = (F 3) from if_neg q1] at J2; exact J2) | exact J2 | (simp only [if_neg q1] at J2 ⊢; exact J2)
  · refine Wk.iconst o_getHyperperiod_7 (z := (0 : Int32)) (by decide) ?_
    refine Wk.goto o_getHyperperiod_8 ?_
    first | (rw [show ((if (F 2) = 0 then (0 : Int32) else (F 3)) : Int32) = (0 : Int32) from if_pos q1] at J2; exact J2) | exact J2 | (simp only [if_pos q1] at J2 ⊢; exact J2)

def f_getHyperperiod (F : Nat → Int32) : Int32 := (if (F 2) = 0 then (0 : Int32) else (F 3))
theorem e_getHyperperiod (F : Nat → Int32) : f_getHyperperiod F = (if (F 2) = 0 then (0 : Int32) else (F 3)) := Eq.trans rfl rfl
theorem run_getHyperperiod {l : Launch} {Z : State} {a0 : Array Value} (H : OK Z a0) (F : Nat → Int32) (G : Nat → Int64) (A : Nat → Int32 → Int32) (B : Nat → Int32 → Int64) :
    Wk l Z (MoC Z cdC) md_getHyperperiod 0 [.val (.ref 0)] [] (7, F, G, A, B) 0 0 (fun v w' => v = some (.int (f_getHyperperiod F)) ∧ w' = (7, F, G, A, B)) :=
  wp_getHyperperiod H F G A B ⟨rfl, rfl⟩
set_option maxRecDepth 65536 in
set_option maxHeartbeats 4000000 in
theorem wp_getTaskCount {l : Launch} {Z : State} {a0 : Array Value} (H : OK Z a0) (F : Nat → Int32) (G : Nat → Int64) (A : Nat → Int32 → Int32) (B : Nat → Int32 → Int64) {Q : Option Value → WO → Prop} (h1 : Q (some (.int (F 2))) (7, F, G, A, B)) :
    Wk l Z (MoC Z cdC) md_getTaskCount 0 [.val (.ref 0)] [] (7, F, G, A, B) 0 0 Q := by
  refine Wk.aloadN o_getTaskCount_0 rfl ?_
  refine Wk.getI (mI_count) (wf_count H) o_getTaskCount_1 (x := (F 2)) rfl ?_
  exact Wk.ireturn mrC rfl o_getTaskCount_4 rfl (by decide) (by decide) h1

def f_getTaskCount (F : Nat → Int32) : Int32 := (F 2)
theorem e_getTaskCount (F : Nat → Int32) : f_getTaskCount F = (F 2) := Eq.trans rfl rfl
theorem run_getTaskCount {l : Launch} {Z : State} {a0 : Array Value} (H : OK Z a0) (F : Nat → Int32) (G : Nat → Int64) (A : Nat → Int32 → Int32) (B : Nat → Int32 → Int64) :
    Wk l Z (MoC Z cdC) md_getTaskCount 0 [.val (.ref 0)] [] (7, F, G, A, B) 0 0 (fun v w' => v = some (.int (f_getTaskCount F)) ∧ w' = (7, F, G, A, B)) :=
  wp_getTaskCount H F G A B ⟨rfl, rfl⟩
set_option maxRecDepth 65536 in
set_option maxHeartbeats 4000000 in
theorem wp_getNow {l : Launch} {Z : State} {a0 : Array Value} (H : OK Z a0) (F : Nat → Int32) (G : Nat → Int64) (A : Nat → Int32 → Int32) (B : Nat → Int32 → Int64) {Q : Option Value → WO → Prop} (h1 : Q (some (.int (F 7))) (7, F, G, A, B)) :
    Wk l Z (MoC Z cdC) md_getNow 0 [.val (.ref 0)] [] (7, F, G, A, B) 0 0 Q := by
  refine Wk.aloadN o_getNow_0 rfl ?_
  refine Wk.getI (mI_now) (wf_now H) o_getNow_1 (x := (F 7)) rfl ?_
  exact Wk.ireturn mrC rfl o_getNow_4 rfl (by decide) (by decide) h1

def f_getNow (F : Nat → Int32) : Int32 := (F 7)
theorem e_getNow (F : Nat → Int32) : f_getNow F = (F 7) := Eq.trans rfl rfl
theorem run_getNow {l : Launch} {Z : State} {a0 : Array Value} (H : OK Z a0) (F : Nat → Int32) (G : Nat → Int64) (A : Nat → Int32 → Int32) (B : Nat → Int32 → Int64) :
    Wk l Z (MoC Z cdC) md_getNow 0 [.val (.ref 0)] [] (7, F, G, A, B) 0 0 (fun v w' => v = some (.int (f_getNow F)) ∧ w' = (7, F, G, A, B)) :=
  wp_getNow H F G A B ⟨rfl, rfl⟩
set_option maxRecDepth 65536 in
set_option maxHeartbeats 4000000 in
theorem wp_getMiss {l : Launch} {Z : State} {a0 : Array Value} (H : OK Z a0) (F : Nat → Int32) (G : Nat → Int64) (A : Nat → Int32 → Int32) (B : Nat → Int32 → Int64) {Q : Option Value → WO → Prop} (h1 : Q (some (.int (F 6))) (7, F, G, A, B)) :
    Wk l Z (MoC Z cdC) md_getMiss 0 [.val (.ref 0)] [] (7, F, G, A, B) 0 0 Q := by
  refine Wk.aloadN o_getMiss_0 rfl ?_
  refine Wk.getI (mI_miss) (wf_miss H) o_getMiss_1 (x := (F 6)) rfl ?_
  exact Wk.ireturn mrC rfl o_getMiss_4 rfl (by decide) (by decide) h1

def f_getMiss (F : Nat → Int32) : Int32 := (F 6)
theorem e_getMiss (F : Nat → Int32) : f_getMiss F = (F 6) := Eq.trans rfl rfl
theorem run_getMiss {l : Launch} {Z : State} {a0 : Array Value} (H : OK Z a0) (F : Nat → Int32) (G : Nat → Int64) (A : Nat → Int32 → Int32) (B : Nat → Int32 → Int64) :
    Wk l Z (MoC Z cdC) md_getMiss 0 [.val (.ref 0)] [] (7, F, G, A, B) 0 0 (fun v w' => v = some (.int (f_getMiss F)) ∧ w' = (7, F, G, A, B)) :=
  wp_getMiss H F G A B ⟨rfl, rfl⟩
set_option maxRecDepth 65536 in
set_option maxHeartbeats 4000000 in
theorem wp_validTick {l : Launch} {Z : State} {a0 : Array Value} (H : OK Z a0) (F : Nat → Int32) (G : Nat → Int64) (A : Nat → Int32 → Int32) (B : Nat → Int32 → Int64) (p1 : Int32) {Q : Option Value → WO → Prop} (h9 : Q (some (.int (nar .boolean (if (F 4) = 0 then (0 : Int32) else (if p1 < 0 then (0 : Int32) else (if p1 < (F 3) then (if p1 < (128 : Int32) then (1 : Int32) else (0 : Int32)) else (0 : Int32))))))) (7, F, G, A, B)) :
    Wk l Z (MoC Z cdC) md_validTick 0 [.val (.ref 0), .val (.int p1)] [] (7, F, G, A, B) 0 0 Q := by
  refine Wk.aloadN o_validTick_0 rfl ?_
  refine Wk.getI (mI_present) (wf_present H) o_validTick_1 (x := (F 4)) rfl ?_
  have J8 : Wk l Z (MoC Z cdC) md_validTick 31 [.val (.ref 0), .val (.int p1)] [.int (if (F 4) = 0 then (0 : Int32) else (if p1 < 0 then (0 : Int32) else (if p1 < (F 3) then (if p1 < (128 : Int32) then (1 : Int32) else (0 : Int32)) else (0 : Int32))))] (7, F, G, A, B) 0 0 Q := by
    exact Wk.zreturn mrC rfl o_validTick_31 rfl (by decide) (by decide) (y := (nar .boolean (if (F 4) = 0 then (0 : Int32) else (if p1 < 0 then (0 : Int32) else (if p1 < (F 3) then (if p1 < (128 : Int32) then (1 : Int32) else (0 : Int32)) else (0 : Int32)))))) rfl h9
  refine Wk.if_eq o_validTick_4 (fun q1 => ?_) (fun q1 => ?_)
  · refine Wk.iconst o_validTick_30 (z := (0 : Int32)) (by decide) ?_
    first | (rw [show ((if (F 4) = 0 then (0 : Int32) else (if p1 < 0 then (0 : Int32) else (if p1 < (F 3) then (if p1 < (128 : Int32) then (1 : Int32) else (0 : Int32)) else (0 : Int32)))) : Int32) = (0 : Int32) from if_pos q1] at J8; exact J8) | exact J8 | (simp only [if_pos q1] at J8 ⊢; exact J8)
  · refine Wk.iloadN o_validTick_7 rfl ?_
    refine Wk.if_lt o_validTick_8 (fun q2 => ?_) (fun q2 => ?_)
    · refine Wk.iconst o_validTick_30 (z := (0 : Int32)) (by decide) ?_
      first | (rw [show ((if (F 4) = 0 then (0 : Int32) else (if p1 < 0 then (0 : Int32) else (if p1 < (F 3) then (if p1 < (128 : Int32) then (1 : Int32) else (0 : Int32)) else (0 : Int32)))) : Int32) = (0 : Int32) from Eq.trans (if_neg q1) <| if_pos q2] at J8; exact J8) | exact J8 | (simp only [if_neg q1, if_pos q2] at J8 ⊢; exact J8)
    · refine Wk.iloadN o_validTick_11 rfl ?_
      refine Wk.aloadN o_validTick_12 rfl ?_
      refine Wk.getI (mI_hyper) (wf_hyper H) o_validTick_13 (x := (F 3)) rfl ?_
      refine Wk.icmp_ge o_validTick_16 (fun q3 => ?_) (fun q3 => ?_)
      · refine Wk.iconst o_validTick_30 (z := (0 : Int32)) (by decide) ?_
        first | (rw [show ((if (F 4) = 0 then (0 : Int32) else (if p1 < 0 then (0 : Int32) else (if p1 < (F 3) then (if p1 < (128 : Int32) then (1 : Int32) else (0 : Int32)) else (0 : Int32)))) : Int32) = (0 : Int32) from Eq.trans (if_neg q1) <| Eq.trans (if_neg q2) <| if_neg q3] at J8; exact J8) | exact J8 | (simp only [if_neg q1, if_neg q2, if_neg q3] at J8 ⊢; exact J8)
      · refine Wk.iloadN o_validTick_19 rfl ?_
        refine Wk.sipush o_validTick_20 (z := (128 : Int32)) (by decide) ?_
        refine Wk.icmp_ge o_validTick_23 (fun q4 => ?_) (fun q4 => ?_)
        · refine Wk.iconst o_validTick_30 (z := (0 : Int32)) (by decide) ?_
          first | (rw [show ((if (F 4) = 0 then (0 : Int32) else (if p1 < 0 then (0 : Int32) else (if p1 < (F 3) then (if p1 < (128 : Int32) then (1 : Int32) else (0 : Int32)) else (0 : Int32)))) : Int32) = (0 : Int32) from Eq.trans (if_neg q1) <| Eq.trans (if_neg q2) <| Eq.trans (if_pos q3) <| if_neg q4] at J8; exact J8) | exact J8 | (simp only [if_neg q1, if_neg q2, if_pos q3, if_neg q4] at J8 ⊢; exact J8)
        · refine Wk.iconst o_validTick_26 (z := (1 : Int32)) (by decide) ?_
          refine Wk.goto o_validTick_27 ?_
          first | (rw [show ((if (F 4) = 0 then (0 : Int32) else (if p1 < 0 then (0 : Int32) else (if p1 < (F 3) then (if p1 < (128 : Int32) then (1 : Int32) else (0 : Int32)) else (0 : Int32)))) : Int32) = (1 : Int32) from Eq.trans (if_neg q1) <| Eq.trans (if_neg q2) <| Eq.trans (if_pos q3) <| if_pos q4] at J8; exact J8) | exact J8 | (simp only [if_neg q1, if_neg q2, if_pos q3, if_pos q4] at J8 ⊢; exact J8)

def f_validTick (F : Nat → Int32) (p1 : Int32) : Int32 := (nar .boolean (if (F 4) = 0 then (0 : Int32) else (if p1 < 0 then (0 : Int32) else (if p1 < (F 3) then (if p1 < (128 : Int32) then (1 : Int32) else (0 : Int32)) else (0 : Int32)))))
theorem e_validTick (F : Nat → Int32) (p1 : Int32) : f_validTick F p1 = (nar .boolean (if (F 4) = 0 then (0 : Int32) else (if p1 < 0 then (0 : Int32) else (if p1 < (F 3) then (if p1 < (128 : Int32) then (1 : Int32) else (0 : Int32)) else (0 : Int32))))) := Eq.trans rfl rfl
theorem bz_validTick (F : Nat → Int32) (p1 : Int32) : nar .boolean (f_validTick F p1) = f_validTick F p1 := by
  unfold f_validTick
  (repeat' split) <;> first | rfl | exact nar_nar _
theorem run_validTick {l : Launch} {Z : State} {a0 : Array Value} (H : OK Z a0) (F : Nat → Int32) (G : Nat → Int64) (A : Nat → Int32 → Int32) (B : Nat → Int32 → Int64) (p1 : Int32) :
    Wk l Z (MoC Z cdC) md_validTick 0 [.val (.ref 0), .val (.int p1)] [] (7, F, G, A, B) 0 0 (fun v w' => v = some (.int (f_validTick F p1)) ∧ w' = (7, F, G, A, B)) :=
  wp_validTick H F G A B p1 ⟨rfl, rfl⟩
set_option maxRecDepth 65536 in
set_option maxHeartbeats 4000000 in
theorem wp_getTickTask {l : Launch} {Z : State} {a0 : Array Value} (H : OK Z a0) (F : Nat → Int32) (G : Nat → Int64) (A : Nat → Int32 → Int32) (B : Nat → Int32 → Int64) (p1 : Int32) {Q : Option Value → WO → Prop} (s2 : ¬ (f_validTick F p1) = 0 → ¬ p1 < 0) (s3 : ¬ (f_validTick F p1) = 0 → p1 < (128 : Int32)) (h4 : ¬ (f_validTick F p1) = 0 → Q (some (.int ((A 4) p1))) (7, F, G, A, B)) (h5 : (f_validTick F p1) = 0 → Q (some (.int (-1 : Int32))) (7, F, G, A, B)) :
    Wk l Z (MoC Z cdC) md_getTickTask 0 [.val (.ref 0), .val (.int p1)] [] (7, F, G, A, B) 0 0 Q := by
  refine Wk.aloadN o_getTickTask_0 rfl ?_
  refine Wk.iloadN o_getTickTask_1 rfl ?_
  refine Wk.callF [.int p1] [] (H.w 132 rfl) (cv_validTick H) o_getTickTask_2 (run_validTick H F G A B p1) (wt := 0) (cu' := 0) (su' := 0) (by decide) rfl rfl rfl rfl rfl rfl rfl ?_
  refine Wk.if_ne o_getTickTask_5 (fun q1 => ?_) (fun q1 => ?_)
  · refine Wk.aloadN o_getTickTask_10 rfl ?_
    refine Wk.getA (mA_tickTask) (by decide) (i' := 5) rfl (wf_tickTask H) o_getTickTask_11 ?_
    refine Wk.iloadN o_getTickTask_14 rfl ?_
    refine Wk.iaload (mA_tickTask) (by decide) (i' := 5) rfl (s2 q1) (s3 q1) o_getTickTask_15 (y := ((A 4) p1)) rfl ?_
    exact Wk.ireturn mrC rfl o_getTickTask_16 rfl (by decide) (by decide) (h4 q1)
  · refine Wk.iconst o_getTickTask_8 (z := (-1 : Int32)) (by decide) ?_
    exact Wk.ireturn mrC rfl o_getTickTask_9 rfl (by decide) (by decide) (h5 q1)

theorem rt_getTickTask (F : Nat → Int32) (G : Nat → Int64) (A : Nat → Int32 → Int32) (B : Nat → Int32 → Int64) (v0 : Int32) (r : Int32) (e : v0 = r) : some (Value.int v0) = some (.int r) ∧ (7, F, G, A, B) = (7, F, G, A, B) := by subst e; exact ⟨rfl, rfl⟩
def en_getTickTask (F : Nat → Int32) (A : Nat → Int32 → Int32) (p1 : Int32) : Option (Int32) := (if (f_validTick F p1) = 0 then some ((-1 : Int32)) else (if (¬ p1 < 0) ∧ (p1 < (128 : Int32)) then some (((A 4) p1)) else none))
theorem een_getTickTask (F : Nat → Int32) (A : Nat → Int32 → Int32) (p1 : Int32) : en_getTickTask F A p1 = (if (f_validTick F p1) = 0 then some ((-1 : Int32)) else (if (¬ p1 < 0) ∧ (p1 < (128 : Int32)) then some (((A 4) p1)) else none)) := Eq.trans rfl rfl
def R_getTickTask (F : Nat → Int32) (A : Nat → Int32 → Int32) (p1 : Int32) : Int32 := (en_getTickTask F A p1).getD (0)
theorem eR_getTickTask (F : Nat → Int32) (A : Nat → Int32 → Int32) (p1 : Int32) : R_getTickTask F A p1 = (en_getTickTask F A p1).getD (0) := Eq.trans rfl rfl
set_option maxRecDepth 65536 in
set_option maxHeartbeats 4000000 in
theorem run_getTickTask {l : Launch} {Z : State} {a0 : Array Value} (H : OK Z a0) (F : Nat → Int32) (G : Nat → Int64) (A : Nat → Int32 → Int32) (B : Nat → Int32 → Int64) (p1 : Int32) (e1 : (en_getTickTask F A p1).isSome = true) :
    Wk l Z (MoC Z cdC) md_getTickTask 0 [.val (.ref 0), .val (.int p1)] [] (7, F, G, A, B) 0 0 (fun v w' => v = some (.int (R_getTickTask F A p1)) ∧ w' = (7, F, G, A, B)) := by
  obtain ⟨r, h⟩ := Option.isSome_iff_exists.mp e1
  have e : R_getTickTask F A p1 = r := (eR_getTickTask F A p1).trans (getD_some h)
  rw [e]
  rw [een_getTickTask] at h
  exact wp_getTickTask H F G A B p1 (fun q1 => (gd (ifn q1 h)).1.1) (fun q1 => (gd (ifn q1 h)).1.2) (fun q1 => (rt_getTickTask _ _ _ _ _ r (Option.some.inj (gd (ifn q1 h)).2))) (fun q1 => (rt_getTickTask _ _ _ _ _ r (Option.some.inj (ifp q1 h))))
set_option maxRecDepth 65536 in
set_option maxHeartbeats 4000000 in
theorem wp_getTickJob {l : Launch} {Z : State} {a0 : Array Value} (H : OK Z a0) (F : Nat → Int32) (G : Nat → Int64) (A : Nat → Int32 → Int32) (B : Nat → Int32 → Int64) (p1 : Int32) {Q : Option Value → WO → Prop} (s2 : ¬ (f_validTick F p1) = 0 → ¬ p1 < 0) (s3 : ¬ (f_validTick F p1) = 0 → p1 < (128 : Int32)) (h4 : ¬ (f_validTick F p1) = 0 → Q (some (.int ((A 5) p1))) (7, F, G, A, B)) (h5 : (f_validTick F p1) = 0 → Q (some (.int (-1 : Int32))) (7, F, G, A, B)) :
    Wk l Z (MoC Z cdC) md_getTickJob 0 [.val (.ref 0), .val (.int p1)] [] (7, F, G, A, B) 0 0 Q := by
  refine Wk.aloadN o_getTickJob_0 rfl ?_
  refine Wk.iloadN o_getTickJob_1 rfl ?_
  refine Wk.callF [.int p1] [] (H.w 132 rfl) (cv_validTick H) o_getTickJob_2 (run_validTick H F G A B p1) (wt := 0) (cu' := 0) (su' := 0) (by decide) rfl rfl rfl rfl rfl rfl rfl ?_
  refine Wk.if_ne o_getTickJob_5 (fun q1 => ?_) (fun q1 => ?_)
  · refine Wk.aloadN o_getTickJob_10 rfl ?_
    refine Wk.getA (mA_tickJob) (by decide) (i' := 6) rfl (wf_tickJob H) o_getTickJob_11 ?_
    refine Wk.iloadN o_getTickJob_14 rfl ?_
    refine Wk.iaload (mA_tickJob) (by decide) (i' := 6) rfl (s2 q1) (s3 q1) o_getTickJob_15 (y := ((A 5) p1)) rfl ?_
    exact Wk.ireturn mrC rfl o_getTickJob_16 rfl (by decide) (by decide) (h4 q1)
  · refine Wk.iconst o_getTickJob_8 (z := (-1 : Int32)) (by decide) ?_
    exact Wk.ireturn mrC rfl o_getTickJob_9 rfl (by decide) (by decide) (h5 q1)

theorem rt_getTickJob (F : Nat → Int32) (G : Nat → Int64) (A : Nat → Int32 → Int32) (B : Nat → Int32 → Int64) (v0 : Int32) (r : Int32) (e : v0 = r) : some (Value.int v0) = some (.int r) ∧ (7, F, G, A, B) = (7, F, G, A, B) := by subst e; exact ⟨rfl, rfl⟩
def en_getTickJob (F : Nat → Int32) (A : Nat → Int32 → Int32) (p1 : Int32) : Option (Int32) := (if (f_validTick F p1) = 0 then some ((-1 : Int32)) else (if (¬ p1 < 0) ∧ (p1 < (128 : Int32)) then some (((A 5) p1)) else none))
theorem een_getTickJob (F : Nat → Int32) (A : Nat → Int32 → Int32) (p1 : Int32) : en_getTickJob F A p1 = (if (f_validTick F p1) = 0 then some ((-1 : Int32)) else (if (¬ p1 < 0) ∧ (p1 < (128 : Int32)) then some (((A 5) p1)) else none)) := Eq.trans rfl rfl
def R_getTickJob (F : Nat → Int32) (A : Nat → Int32 → Int32) (p1 : Int32) : Int32 := (en_getTickJob F A p1).getD (0)
theorem eR_getTickJob (F : Nat → Int32) (A : Nat → Int32 → Int32) (p1 : Int32) : R_getTickJob F A p1 = (en_getTickJob F A p1).getD (0) := Eq.trans rfl rfl
set_option maxRecDepth 65536 in
set_option maxHeartbeats 4000000 in
theorem run_getTickJob {l : Launch} {Z : State} {a0 : Array Value} (H : OK Z a0) (F : Nat → Int32) (G : Nat → Int64) (A : Nat → Int32 → Int32) (B : Nat → Int32 → Int64) (p1 : Int32) (e1 : (en_getTickJob F A p1).isSome = true) :
    Wk l Z (MoC Z cdC) md_getTickJob 0 [.val (.ref 0), .val (.int p1)] [] (7, F, G, A, B) 0 0 (fun v w' => v = some (.int (R_getTickJob F A p1)) ∧ w' = (7, F, G, A, B)) := by
  obtain ⟨r, h⟩ := Option.isSome_iff_exists.mp e1
  have e : R_getTickJob F A p1 = r := (eR_getTickJob F A p1).trans (getD_some h)
  rw [e]
  rw [een_getTickJob] at h
  exact wp_getTickJob H F G A B p1 (fun q1 => (gd (ifn q1 h)).1.1) (fun q1 => (gd (ifn q1 h)).1.2) (fun q1 => (rt_getTickJob _ _ _ _ _ r (Option.some.inj (gd (ifn q1 h)).2))) (fun q1 => (rt_getTickJob _ _ _ _ _ r (Option.some.inj (ifp q1 h))))
set_option maxRecDepth 65536 in
set_option maxHeartbeats 4000000 in
theorem wp_getRunTicks {l : Launch} {Z : State} {a0 : Array Value} (H : OK Z a0) (F : Nat → Int32) (G : Nat → Int64) (A : Nat → Int32 → Int32) (B : Nat → Int32 → Int64) (p1 : Int32) {Q : Option Value → WO → Prop} (h2 : p1 < 0 → Q (some (.int (-1 : Int32))) (7, F, G, A, B)) (s4 : ¬ p1 < 0 → p1 < (F 2) → p1 < (8 : Int32)) (h5 : ¬ p1 < 0 → p1 < (F 2) → Q (some (.int ((A 3) p1))) (7, F, G, A, B)) (h6 : ¬ p1 < 0 → ¬ p1 < (F 2) → Q (some (.int (-1 : Int32))) (7, F, G, A, B)) :
    Wk l Z (MoC Z cdC) md_getRunTicks 0 [.val (.ref 0), .val (.int p1)] [] (7, F, G, A, B) 0 0 Q := by
  refine Wk.iloadN o_getRunTicks_0 rfl ?_
  refine Wk.if_lt o_getRunTicks_1 (fun q1 => ?_) (fun q1 => ?_)
  · refine Wk.iconst o_getRunTicks_12 (z := (-1 : Int32)) (by decide) ?_
    exact Wk.ireturn mrC rfl o_getRunTicks_13 rfl (by decide) (by decide) (h2 q1)
  · refine Wk.iloadN o_getRunTicks_4 rfl ?_
    refine Wk.aloadN o_getRunTicks_5 rfl ?_
    refine Wk.getI (mI_count) (wf_count H) o_getRunTicks_6 (x := (F 2)) rfl ?_
    refine Wk.icmp_lt o_getRunTicks_9 (fun q3 => ?_) (fun q3 => ?_)
    · refine Wk.aloadN o_getRunTicks_14 rfl ?_
      refine Wk.getA (mA_runCnt) (by decide) (i' := 4) rfl (wf_runCnt H) o_getRunTicks_15 ?_
      refine Wk.iloadN o_getRunTicks_18 rfl ?_
      refine Wk.iaload (mA_runCnt) (by decide) (i' := 4) rfl q1 (s4 q1 q3) o_getRunTicks_19 (y := ((A 3) p1)) rfl ?_
      exact Wk.ireturn mrC rfl o_getRunTicks_20 rfl (by decide) (by decide) (h5 q1 q3)
    · refine Wk.iconst o_getRunTicks_12 (z := (-1 : Int32)) (by decide) ?_
      exact Wk.ireturn mrC rfl o_getRunTicks_13 rfl (by decide) (by decide) (h6 q1 q3)

theorem rt_getRunTicks (F : Nat → Int32) (G : Nat → Int64) (A : Nat → Int32 → Int32) (B : Nat → Int32 → Int64) (v0 : Int32) (r : Int32) (e : v0 = r) : some (Value.int v0) = some (.int r) ∧ (7, F, G, A, B) = (7, F, G, A, B) := by subst e; exact ⟨rfl, rfl⟩
def en_getRunTicks (F : Nat → Int32) (A : Nat → Int32 → Int32) (p1 : Int32) : Option (Int32) := (if p1 < 0 then some ((-1 : Int32)) else (if p1 < (F 2) then (if (p1 < (8 : Int32)) then some (((A 3) p1)) else none) else some ((-1 : Int32))))
theorem een_getRunTicks (F : Nat → Int32) (A : Nat → Int32 → Int32) (p1 : Int32) : en_getRunTicks F A p1 = (if p1 < 0 then some ((-1 : Int32)) else (if p1 < (F 2) then (if (p1 < (8 : Int32)) then some (((A 3) p1)) else none) else some ((-1 : Int32)))) := Eq.trans rfl rfl
def R_getRunTicks (F : Nat → Int32) (A : Nat → Int32 → Int32) (p1 : Int32) : Int32 := (en_getRunTicks F A p1).getD (0)
theorem eR_getRunTicks (F : Nat → Int32) (A : Nat → Int32 → Int32) (p1 : Int32) : R_getRunTicks F A p1 = (en_getRunTicks F A p1).getD (0) := Eq.trans rfl rfl
set_option maxRecDepth 65536 in
set_option maxHeartbeats 4000000 in
theorem run_getRunTicks {l : Launch} {Z : State} {a0 : Array Value} (H : OK Z a0) (F : Nat → Int32) (G : Nat → Int64) (A : Nat → Int32 → Int32) (B : Nat → Int32 → Int64) (p1 : Int32) (e1 : (en_getRunTicks F A p1).isSome = true) :
    Wk l Z (MoC Z cdC) md_getRunTicks 0 [.val (.ref 0), .val (.int p1)] [] (7, F, G, A, B) 0 0 (fun v w' => v = some (.int (R_getRunTicks F A p1)) ∧ w' = (7, F, G, A, B)) := by
  obtain ⟨r, h⟩ := Option.isSome_iff_exists.mp e1
  have e : R_getRunTicks F A p1 = r := (eR_getRunTicks F A p1).trans (getD_some h)
  rw [e]
  rw [een_getRunTicks] at h
  exact wp_getRunTicks H F G A B p1 (fun q1 => (rt_getRunTicks _ _ _ _ _ r (Option.some.inj (ifp q1 h)))) (fun q1 q3 => (gd (ifp q3 (ifn q1 h))).1) (fun q1 q3 => (rt_getRunTicks _ _ _ _ _ r (Option.some.inj (gd (ifp q3 (ifn q1 h))).2))) (fun q1 q3 => (rt_getRunTicks _ _ _ _ _ r (Option.some.inj (ifn q3 (ifn q1 h)))))
set_option maxRecDepth 65536 in
set_option maxHeartbeats 4000000 in
theorem wp_L_tableSum {l : Launch} {Z : State} {a0 : Array Value} (H : OK Z a0) (sl : Int32) (sv : Int32 → Int32) (F1 : Nat → Int32) (G1 : Nat → Int64) (A1 : Nat → Int32 → Int32) (B1 : Nat → Int32 → Int64) (p1 : Int32) {Q : Option Value → WL → Prop} (h1 : Wk l Z (MoL Z cdC "CyclicExecutiveL7" true) md_L_tableSum 5 [.val (.ref 1), .val (.int p1), .val (.long (0 : Int64)), .second, .val (.int (-1 : Int32))] [] (sl, sv, [(7, F1, G1, A1, B1)]) 0 0 Q) :
    Wk l Z (MoL Z cdC "CyclicExecutiveL7" true) md_L_tableSum 0 [.val (.ref 1), .val (.int p1), .unset, .unset, .unset] [] (sl, sv, [(7, F1, G1, A1, B1)]) 0 0 Q := by
  refine Wk.lconst o_L_tableSum_0 (z := (0 : Int64)) (by decide) ?_
  refine Wk.lstoreN o_L_tableSum_1 (Or.inl rfl) (Or.inl rfl) (L' := [.val (.ref 1), .val (.int p1), .val (.long (0 : Int64)), .second, .unset]) rfl ?_
  refine Wk.iconst o_L_tableSum_2 (z := (-1 : Int32)) (by decide) ?_
  refine Wk.istore o_L_tableSum_3 (Or.inl rfl) (L' := [.val (.ref 1), .val (.int p1), .val (.long (0 : Int64)), .second, .val (.int (-1 : Int32))]) rfl ?_
  exact h1

set_option maxRecDepth 65536 in
set_option maxHeartbeats 4000000 in
theorem wp_L_tableSum_5 {l : Launch} {Z : State} {a0 : Array Value} (H : OK Z a0) (sl : Int32) (sv : Int32 → Int32) (F1 : Nat → Int32) (G1 : Nat → Int64) (A1 : Nat → Int32 → Int32) (B1 : Nat → Int32 → Int64) (v1 : Int32) (w2 : Int64) (v4 : Int32) {Q : Option Value → WL → Prop} (h2 : v1 < v4 → Q (some (.long w2)) (sl, sv, [(7, F1, G1, A1, B1)])) (h4 : ¬ v1 < v4 → ¬ v4 < (130 : Int32) → Q (some (.long w2)) (sl, sv, [(7, F1, G1, A1, B1)])) (s5 : ¬ v1 < v4 → v4 < (130 : Int32) → (en_getTickTask F1 A1 v4).isSome = true) (s6 : ¬ v1 < v4 → v4 < (130 : Int32) → (en_getTickJob F1 A1 v4).isSome = true) (h7 : ¬ v1 < v4 → v4 < (130 : Int32) → Wk l Z (MoL Z cdC "CyclicExecutiveL7" true) md_L_tableSum 5 [.val (.ref 1), .val (.int v1), .val (.long (((w2 * (31 : Int64)) + (((R_getTickTask F1 A1 v4).toInt64) * (257 : Int64))) + ((R_getTickJob F1 A1 v4).toInt64))), .second, .val (.int (v4 + (1 : Int32)))] [] (sl, sv, [(7, F1, G1, A1, B1)]) 0 0 Q) :
    Wk l Z (MoL Z cdC "CyclicExecutiveL7" true) md_L_tableSum 5 [.val (.ref 1), .val (.int v1), .val (.long w2), .second, .val (.int v4)] [] (sl, sv, [(7, F1, G1, A1, B1)]) 0 0 Q := by
  refine Wk.iload o_L_tableSum_5 rfl ?_
  refine Wk.iloadN o_L_tableSum_7 rfl ?_
  refine Wk.icmp_gt o_L_tableSum_8 (fun q1 => ?_) (fun q1 => ?_)
  · refine Wk.lloadN o_L_tableSum_51 rfl ?_
    exact Wk.lreturn mrL rfl o_L_tableSum_52 rfl (by decide) (by decide) (h2 q1)
  · refine Wk.iload o_L_tableSum_11 rfl ?_
    refine Wk.sipush o_L_tableSum_13 (z := (130 : Int32)) (by decide) ?_
    refine Wk.icmp_ge o_L_tableSum_16 (fun q3 => ?_) (fun q3 => ?_)
    · refine Wk.lloadN o_L_tableSum_51 rfl ?_
      exact Wk.lreturn mrL rfl o_L_tableSum_52 rfl (by decide) (by decide) (h4 q1 q3)
    · refine Wk.lloadN o_L_tableSum_19 rfl ?_
      refine Wk.ldc2 o_L_tableSum_20 (z := (31 : Int64)) (H.w 126 rfl) ?_
      refine Wk.lmul o_L_tableSum_23 ?_
      refine Wk.aloadN o_L_tableSum_24 rfl ?_
      refine Wk.iload o_L_tableSum_25 rfl ?_
      refine Wk.callLF (coC H) [.int v4] 0 [.long (w2 * (31 : Int64))] (i' := 1) (H.w 127 rfl) (cv_getTickTask H) o_L_tableSum_27 (run_getTickTask H F1 G1 A1 B1 v4 (s5 q1 q3)) (wt := 2) (cu' := 0) (su' := 0) (by decide) trivial rfl rfl rfl rfl rfl rfl rfl rfl rfl rfl (ws' := [(7, F1, G1, A1, B1)]) rfl ?_
      refine Wk.i2l o_L_tableSum_30 ?_
      refine Wk.ldc2 o_L_tableSum_31 (z := (257 : Int64)) (H.w 136 rfl) ?_
      refine Wk.lmul o_L_tableSum_34 ?_
      refine Wk.ladd o_L_tableSum_35 ?_
      refine Wk.aloadN o_L_tableSum_36 rfl ?_
      refine Wk.iload o_L_tableSum_37 rfl ?_
      refine Wk.callLF (coC H) [.int v4] 0 [.long ((w2 * (31 : Int64)) + (((R_getTickTask F1 A1 v4).toInt64) * (257 : Int64)))] (i' := 1) (H.w 137 rfl) (cv_getTickJob H) o_L_tableSum_39 (run_getTickJob H F1 G1 A1 B1 v4 (s6 q1 q3)) (wt := 2) (cu' := 0) (su' := 0) (by decide) trivial rfl rfl rfl rfl rfl rfl rfl rfl rfl rfl (ws' := [(7, F1, G1, A1, B1)]) rfl ?_
      refine Wk.i2l o_L_tableSum_42 ?_
      refine Wk.ladd o_L_tableSum_43 ?_
      refine Wk.forget [false, false, true, true, false] (L' := [.val (.ref 1), .val (.int v1), .unset, .unset, .val (.int v4)]) rfl rfl ?_
      refine Wk.lstoreN o_L_tableSum_44 (Or.inl rfl) (Or.inl rfl) (L' := [.val (.ref 1), .val (.int v1), .val (.long (((w2 * (31 : Int64)) + (((R_getTickTask F1 A1 v4).toInt64) * (257 : Int64))) + ((R_getTickJob F1 A1 v4).toInt64))), .second, .val (.int v4)]) rfl ?_
      refine Wk.iinc o_L_tableSum_45 rfl (z := (v4 + (1 : Int32))) rfl (L' := [.val (.ref 1), .val (.int v1), .val (.long (((w2 * (31 : Int64)) + (((R_getTickTask F1 A1 v4).toInt64) * (257 : Int64))) + ((R_getTickJob F1 A1 v4).toInt64))), .second, .val (.int (v4 + (1 : Int32)))]) rfl ?_
      refine Wk.goto o_L_tableSum_48 ?_
      exact (h7 q1 q3)

theorem rt_L_tableSum (sl : Int32) (sv : Int32 → Int32) (F1 : Nat → Int32) (G1 : Nat → Int64) (A1 : Nat → Int32 → Int32) (B1 : Nat → Int32 → Int64) (v0 : Int64) (r : Int64) (e : v0 = r) : some (Value.long v0) = some (Value.long r) ∧ (sl, sv, [(7, F1, G1, A1, B1)]) = (sl, sv, [(7, F1, G1, A1, B1)]) := by subst e; exact ⟨rfl, rfl⟩
def lp_L_tableSum : Nat → Nat → Int32 → Int64 → Int32 → (Nat → Int32) → (Nat → Int32 → Int32) → Option (Int64)
  | 0, _, _, _, _, _, _ => none
  | n + 1, tag, v1, w2, v4, F1, A1 => if tag = 5 then (if v1 < v4 then some (w2) else (if v4 < (130 : Int32) then (if ((en_getTickTask F1 A1 v4).isSome = true) ∧ ((en_getTickJob F1 A1 v4).isSome = true) then lp_L_tableSum n 5 v1 (((w2 * (31 : Int64)) + (((R_getTickTask F1 A1 v4).toInt64) * (257 : Int64))) + ((R_getTickJob F1 A1 v4).toInt64)) (v4 + (1 : Int32)) F1 A1 else none) else some (w2))) else none
theorem lp_L_tableSum_z (tag : Nat) (v1 : Int32) (w2 : Int64) (v4 : Int32) (F1 : Nat → Int32) (A1 : Nat → Int32 → Int32) : lp_L_tableSum 0 tag  v1 w2 v4 F1 A1 = none := Eq.trans rfl rfl
theorem lp_L_tableSum_5 (n : Nat) (v1 : Int32) (w2 : Int64) (v4 : Int32) (F1 : Nat → Int32) (A1 : Nat → Int32 → Int32) : lp_L_tableSum (n + 1) 5  v1 w2 v4 F1 A1 = (if v1 < v4 then some (w2) else (if v4 < (130 : Int32) then (if ((en_getTickTask F1 A1 v4).isSome = true) ∧ ((en_getTickJob F1 A1 v4).isSome = true) then lp_L_tableSum n 5 v1 (((w2 * (31 : Int64)) + (((R_getTickTask F1 A1 v4).toInt64) * (257 : Int64))) + ((R_getTickJob F1 A1 v4).toInt64)) (v4 + (1 : Int32)) F1 A1 else none) else some (w2))) := by
  rw [lp_L_tableSum, if_pos rfl]
set_option maxRecDepth 65536 in
set_option maxHeartbeats 4000000 in
theorem lpw_L_tableSum {l : Launch} {Z : State} {a0 : Array Value} (H : OK Z a0) (sl : Int32) (sv : Int32 → Int32) (F1 : Nat → Int32) (G1 : Nat → Int64) (A1 : Nat → Int32 → Int32) (B1 : Nat → Int32 → Int64) : ∀ (n : Nat) (v1 : Int32) (w2 : Int64) (v4 : Int32) (r : Int64), (lp_L_tableSum n 5  v1 w2 v4 F1 A1 = some r → Wk l Z (MoL Z cdC "CyclicExecutiveL7" true) md_L_tableSum 5 [.val (.ref 1), .val (.int v1), .val (.long w2), .second, .val (.int v4)] [] (sl, sv, [(7, F1, G1, A1, B1)]) 0 0 (fun v w' => v = some (.long r) ∧ w' = (sl, sv, [(7, F1, G1, A1, B1)]))) := by
  intro n
  induction n with
  | zero =>
    intro v1 w2 v4  r
    exact (fun h => by rw [lp_L_tableSum_z] at h; cases h)
  | succ n ih =>
    intro v1 w2 v4  r
    refine fun h => ?_
    · rw [lp_L_tableSum_5] at h
      exact wp_L_tableSum_5 H sl sv F1 G1 A1 B1 v1 w2 v4 (fun q1 => (rt_L_tableSum _ _ _ _ _ _ _ r (Option.some.inj (ifp q1 h)))) (fun q1 q3 => (rt_L_tableSum _ _ _ _ _ _ _ r (Option.some.inj (ifn q3 (ifn q1 h))))) (fun q1 q3 => (gd (ifp q3 (ifn q1 h))).1.1) (fun q1 q3 => (gd (ifp q3 (ifn q1 h))).1.2) (fun q1 q3 => (ih _ _ _ _) (gd (ifp q3 (ifn q1 h))).2)
def en_L_tableSum (F1 : Nat → Int32) (A1 : Nat → Int32 → Int32) (p1 : Int32) : Option (Int64) := lp_L_tableSum 1000 5 p1 (0 : Int64) (-1 : Int32) F1 A1
theorem een_L_tableSum (F1 : Nat → Int32) (A1 : Nat → Int32 → Int32) (p1 : Int32) : en_L_tableSum  F1 A1 p1 = lp_L_tableSum 1000 5 p1 (0 : Int64) (-1 : Int32) F1 A1 := Eq.trans rfl rfl
def R_L_tableSum (F1 : Nat → Int32) (A1 : Nat → Int32 → Int32) (p1 : Int32) : Int64 := (en_L_tableSum  F1 A1 p1).getD (0)
theorem eR_L_tableSum (F1 : Nat → Int32) (A1 : Nat → Int32 → Int32) (p1 : Int32) : R_L_tableSum  F1 A1 p1 = (en_L_tableSum  F1 A1 p1).getD (0) := Eq.trans rfl rfl
set_option maxRecDepth 65536 in
set_option maxHeartbeats 4000000 in
theorem run_L_tableSum {l : Launch} {Z : State} {a0 : Array Value} (H : OK Z a0) (sl : Int32) (sv : Int32 → Int32) (F1 : Nat → Int32) (G1 : Nat → Int64) (A1 : Nat → Int32 → Int32) (B1 : Nat → Int32 → Int64) (p1 : Int32) (e1 : (en_L_tableSum  F1 A1 p1).isSome = true) :
    Wk l Z (MoL Z cdC "CyclicExecutiveL7" true) md_L_tableSum 0 [.val (.ref 1), .val (.int p1), .unset, .unset, .unset] [] (sl, sv, [(7, F1, G1, A1, B1)]) 0 0 (fun v w' => v = some (.long (R_L_tableSum  F1 A1 p1)) ∧ w' = (sl, sv, [(7, F1, G1, A1, B1)])) := by
  obtain ⟨r, h⟩ := Option.isSome_iff_exists.mp e1
  have e : R_L_tableSum  F1 A1 p1 = r := (eR_L_tableSum  F1 A1 p1).trans (getD_some h)
  rw [e]
  rw [een_L_tableSum] at h
  exact wp_L_tableSum H sl sv F1 G1 A1 B1 p1 ((lpw_L_tableSum H sl sv _ _ _ _ _ _ _ _ _) h)
set_option maxRecDepth 65536 in
set_option maxHeartbeats 4000000 in
theorem wp_L_runSum {l : Launch} {Z : State} {a0 : Array Value} (H : OK Z a0) (sl : Int32) (sv : Int32 → Int32) (F1 : Nat → Int32) (G1 : Nat → Int64) (A1 : Nat → Int32 → Int32) (B1 : Nat → Int32 → Int64) (p1 : Int32) {Q : Option Value → WL → Prop} (h1 : Wk l Z (MoL Z cdC "CyclicExecutiveL7" true) md_L_runSum 5 [.val (.ref 1), .val (.int p1), .val (.long (0 : Int64)), .second, .val (.int (0 : Int32))] [] (sl, sv, [(7, F1, G1, A1, B1)]) 0 0 Q) :
    Wk l Z (MoL Z cdC "CyclicExecutiveL7" true) md_L_runSum 0 [.val (.ref 1), .val (.int p1), .unset, .unset, .unset] [] (sl, sv, [(7, F1, G1, A1, B1)]) 0 0 Q := by
  refine Wk.lconst o_L_runSum_0 (z := (0 : Int64)) (by decide) ?_
  refine Wk.lstoreN o_L_runSum_1 (Or.inl rfl) (Or.inl rfl) (L' := [.val (.ref 1), .val (.int p1), .val (.long (0 : Int64)), .second, .unset]) rfl ?_
  refine Wk.iconst o_L_runSum_2 (z := (0 : Int32)) (by decide) ?_
  refine Wk.istore o_L_runSum_3 (Or.inl rfl) (L' := [.val (.ref 1), .val (.int p1), .val (.long (0 : Int64)), .second, .val (.int (0 : Int32))]) rfl ?_
  exact h1

set_option maxRecDepth 65536 in
set_option maxHeartbeats 4000000 in
theorem wp_L_runSum_5 {l : Launch} {Z : State} {a0 : Array Value} (H : OK Z a0) (sl : Int32) (sv : Int32 → Int32) (F1 : Nat → Int32) (G1 : Nat → Int64) (A1 : Nat → Int32 → Int32) (B1 : Nat → Int32 → Int64) (v1 : Int32) (w2 : Int64) (v4 : Int32) {Q : Option Value → WL → Prop} (h2 : ¬ v4 < v1 → Q (some (.long w2)) (sl, sv, [(7, F1, G1, A1, B1)])) (h4 : v4 < v1 → ¬ v4 < (8 : Int32) → Q (some (.long w2)) (sl, sv, [(7, F1, G1, A1, B1)])) (s5 : v4 < v1 → v4 < (8 : Int32) → (en_getRunTicks F1 A1 v4).isSome = true) (h6 : v4 < v1 → v4 < (8 : Int32) → Wk l Z (MoL Z cdC "CyclicExecutiveL7" true) md_L_runSum 5 [.val (.ref 1), .val (.int v1), .val (.long (w2 + (((R_getRunTicks F1 A1 v4).toInt64) <<< (((16 : Int32) * v4).toInt64 &&& 63)))), .second, .val (.int (v4 + (1 : Int32)))] [] (sl, sv, [(7, F1, G1, A1, B1)]) 0 0 Q) :
    Wk l Z (MoL Z cdC "CyclicExecutiveL7" true) md_L_runSum 5 [.val (.ref 1), .val (.int v1), .val (.long w2), .second, .val (.int v4)] [] (sl, sv, [(7, F1, G1, A1, B1)]) 0 0 Q := by
  refine Wk.iload o_L_runSum_5 rfl ?_
  refine Wk.iloadN o_L_runSum_7 rfl ?_
  refine Wk.icmp_ge o_L_runSum_8 (fun q1 => ?_) (fun q1 => ?_)
  · refine Wk.lloadN o_L_runSum_40 rfl ?_
    exact Wk.lreturn mrL rfl o_L_runSum_41 rfl (by decide) (by decide) (h2 q1)
  · refine Wk.iload o_L_runSum_11 rfl ?_
    refine Wk.bipush o_L_runSum_13 (z := (8 : Int32)) (by decide) ?_
    refine Wk.icmp_ge o_L_runSum_15 (fun q3 => ?_) (fun q3 => ?_)
    · refine Wk.lloadN o_L_runSum_40 rfl ?_
      exact Wk.lreturn mrL rfl o_L_runSum_41 rfl (by decide) (by decide) (h4 q1 q3)
    · refine Wk.lloadN o_L_runSum_18 rfl ?_
      refine Wk.aloadN o_L_runSum_19 rfl ?_
      refine Wk.iload o_L_runSum_20 rfl ?_
      refine Wk.callLF (coC H) [.int v4] 0 [.long w2] (i' := 1) (H.w 145 rfl) (cv_getRunTicks H) o_L_runSum_22 (run_getRunTicks H F1 G1 A1 B1 v4 (s5 q1 q3)) (wt := 2) (cu' := 0) (su' := 0) (by decide) trivial rfl rfl rfl rfl rfl rfl rfl rfl rfl rfl (ws' := [(7, F1, G1, A1, B1)]) rfl ?_
      refine Wk.i2l o_L_runSum_25 ?_
      refine Wk.bipush o_L_runSum_26 (z := (16 : Int32)) (by decide) ?_
      refine Wk.iload o_L_runSum_28 rfl ?_
      refine Wk.imul o_L_runSum_30 ?_
      refine Wk.lshl o_L_runSum_31 ?_
      refine Wk.ladd o_L_runSum_32 ?_
      refine Wk.forget [false, false, true, true, false] (L' := [.val (.ref 1), .val (.int v1), .unset, .unset, .val (.int v4)]) rfl rfl ?_
      refine Wk.lstoreN o_L_runSum_33 (Or.inl rfl) (Or.inl rfl) (L' := [.val (.ref 1), .val (.int v1), .val (.long (w2 + (((R_getRunTicks F1 A1 v4).toInt64) <<< (((16 : Int32) * v4).toInt64 &&& 63)))), .second, .val (.int v4)]) rfl ?_
      refine Wk.iinc o_L_runSum_34 rfl (z := (v4 + (1 : Int32))) rfl (L' := [.val (.ref 1), .val (.int v1), .val (.long (w2 + (((R_getRunTicks F1 A1 v4).toInt64) <<< (((16 : Int32) * v4).toInt64 &&& 63)))), .second, .val (.int (v4 + (1 : Int32)))]) rfl ?_
      refine Wk.goto o_L_runSum_37 ?_
      exact (h6 q1 q3)

theorem rt_L_runSum (sl : Int32) (sv : Int32 → Int32) (F1 : Nat → Int32) (G1 : Nat → Int64) (A1 : Nat → Int32 → Int32) (B1 : Nat → Int32 → Int64) (v0 : Int64) (r : Int64) (e : v0 = r) : some (Value.long v0) = some (Value.long r) ∧ (sl, sv, [(7, F1, G1, A1, B1)]) = (sl, sv, [(7, F1, G1, A1, B1)]) := by subst e; exact ⟨rfl, rfl⟩
def lp_L_runSum : Nat → Nat → Int32 → Int64 → Int32 → (Nat → Int32) → (Nat → Int32 → Int32) → Option (Int64)
  | 0, _, _, _, _, _, _ => none
  | n + 1, tag, v1, w2, v4, F1, A1 => if tag = 5 then (if v4 < v1 then (if v4 < (8 : Int32) then (if ((en_getRunTicks F1 A1 v4).isSome = true) then lp_L_runSum n 5 v1 (w2 + (((R_getRunTicks F1 A1 v4).toInt64) <<< (((16 : Int32) * v4).toInt64 &&& 63))) (v4 + (1 : Int32)) F1 A1 else none) else some (w2)) else some (w2)) else none
theorem lp_L_runSum_z (tag : Nat) (v1 : Int32) (w2 : Int64) (v4 : Int32) (F1 : Nat → Int32) (A1 : Nat → Int32 → Int32) : lp_L_runSum 0 tag  v1 w2 v4 F1 A1 = none := Eq.trans rfl rfl
theorem lp_L_runSum_5 (n : Nat) (v1 : Int32) (w2 : Int64) (v4 : Int32) (F1 : Nat → Int32) (A1 : Nat → Int32 → Int32) : lp_L_runSum (n + 1) 5  v1 w2 v4 F1 A1 = (if v4 < v1 then (if v4 < (8 : Int32) then (if ((en_getRunTicks F1 A1 v4).isSome = true) then lp_L_runSum n 5 v1 (w2 + (((R_getRunTicks F1 A1 v4).toInt64) <<< (((16 : Int32) * v4).toInt64 &&& 63))) (v4 + (1 : Int32)) F1 A1 else none) else some (w2)) else some (w2)) := by
  rw [lp_L_runSum, if_pos rfl]
set_option maxRecDepth 65536 in
set_option maxHeartbeats 4000000 in
theorem lpw_L_runSum {l : Launch} {Z : State} {a0 : Array Value} (H : OK Z a0) (sl : Int32) (sv : Int32 → Int32) (F1 : Nat → Int32) (G1 : Nat → Int64) (A1 : Nat → Int32 → Int32) (B1 : Nat → Int32 → Int64) : ∀ (n : Nat) (v1 : Int32) (w2 : Int64) (v4 : Int32) (r : Int64), (lp_L_runSum n 5  v1 w2 v4 F1 A1 = some r → Wk l Z (MoL Z cdC "CyclicExecutiveL7" true) md_L_runSum 5 [.val (.ref 1), .val (.int v1), .val (.long w2), .second, .val (.int v4)] [] (sl, sv, [(7, F1, G1, A1, B1)]) 0 0 (fun v w' => v = some (.long r) ∧ w' = (sl, sv, [(7, F1, G1, A1, B1)]))) := by
  intro n
  induction n with
  | zero =>
    intro v1 w2 v4  r
    exact (fun h => by rw [lp_L_runSum_z] at h; cases h)
  | succ n ih =>
    intro v1 w2 v4  r
    refine fun h => ?_
    · rw [lp_L_runSum_5] at h
      exact wp_L_runSum_5 H sl sv F1 G1 A1 B1 v1 w2 v4 (fun q1 => (rt_L_runSum _ _ _ _ _ _ _ r (Option.some.inj (ifn q1 h)))) (fun q1 q3 => (rt_L_runSum _ _ _ _ _ _ _ r (Option.some.inj (ifn q3 (ifp q1 h))))) (fun q1 q3 => (gd (ifp q3 (ifp q1 h))).1) (fun q1 q3 => (ih _ _ _ _) (gd (ifp q3 (ifp q1 h))).2)
def en_L_runSum (F1 : Nat → Int32) (A1 : Nat → Int32 → Int32) (p1 : Int32) : Option (Int64) := lp_L_runSum 1000 5 p1 (0 : Int64) (0 : Int32) F1 A1
theorem een_L_runSum (F1 : Nat → Int32) (A1 : Nat → Int32 → Int32) (p1 : Int32) : en_L_runSum  F1 A1 p1 = lp_L_runSum 1000 5 p1 (0 : Int64) (0 : Int32) F1 A1 := Eq.trans rfl rfl
def R_L_runSum (F1 : Nat → Int32) (A1 : Nat → Int32 → Int32) (p1 : Int32) : Int64 := (en_L_runSum  F1 A1 p1).getD (0)
theorem eR_L_runSum (F1 : Nat → Int32) (A1 : Nat → Int32 → Int32) (p1 : Int32) : R_L_runSum  F1 A1 p1 = (en_L_runSum  F1 A1 p1).getD (0) := Eq.trans rfl rfl
set_option maxRecDepth 65536 in
set_option maxHeartbeats 4000000 in
theorem run_L_runSum {l : Launch} {Z : State} {a0 : Array Value} (H : OK Z a0) (sl : Int32) (sv : Int32 → Int32) (F1 : Nat → Int32) (G1 : Nat → Int64) (A1 : Nat → Int32 → Int32) (B1 : Nat → Int32 → Int64) (p1 : Int32) (e1 : (en_L_runSum  F1 A1 p1).isSome = true) :
    Wk l Z (MoL Z cdC "CyclicExecutiveL7" true) md_L_runSum 0 [.val (.ref 1), .val (.int p1), .unset, .unset, .unset] [] (sl, sv, [(7, F1, G1, A1, B1)]) 0 0 (fun v w' => v = some (.long (R_L_runSum  F1 A1 p1)) ∧ w' = (sl, sv, [(7, F1, G1, A1, B1)])) := by
  obtain ⟨r, h⟩ := Option.isSome_iff_exists.mp e1
  have e : R_L_runSum  F1 A1 p1 = r := (eR_L_runSum  F1 A1 p1).trans (getD_some h)
  rw [e]
  rw [een_L_runSum] at h
  exact wp_L_runSum H sl sv F1 G1 A1 B1 p1 ((lpw_L_runSum H sl sv _ _ _ _ _ _ _ _ _) h)
set_option maxRecDepth 65536 in
set_option maxHeartbeats 4000000 in
theorem wp_L_cycleSum {l : Launch} {Z : State} {a0 : Array Value} (H : OK Z a0) (sl : Int32) (sv : Int32 → Int32) (F1 : Nat → Int32) (G1 : Nat → Int64) (A1 : Nat → Int32 → Int32) (B1 : Nat → Int32 → Int64) (p1 : Int32) (p2 : Int32) {Q : Option Value → WL → Prop} (h1 : Wk l Z (MoL Z cdC "CyclicExecutiveL7" true) md_L_cycleSum 5 [.val (.ref 1), .val (.int p1), .val (.int p2), .val (.long (0 : Int64)), .second, .val (.int (0 : Int32)), .unset] [] (sl, sv, [(7, F1, G1, A1, B1)]) 0 0 Q) :
    Wk l Z (MoL Z cdC "CyclicExecutiveL7" true) md_L_cycleSum 0 [.val (.ref 1), .val (.int p1), .val (.int p2), .unset, .unset, .unset, .unset] [] (sl, sv, [(7, F1, G1, A1, B1)]) 0 0 Q := by
  refine Wk.lconst o_L_cycleSum_0 (z := (0 : Int64)) (by decide) ?_
  refine Wk.lstoreN o_L_cycleSum_1 (Or.inl rfl) (Or.inl rfl) (L' := [.val (.ref 1), .val (.int p1), .val (.int p2), .val (.long (0 : Int64)), .second, .unset, .unset]) rfl ?_
  refine Wk.iconst o_L_cycleSum_2 (z := (0 : Int32)) (by decide) ?_
  refine Wk.istore o_L_cycleSum_3 (Or.inl rfl) (L' := [.val (.ref 1), .val (.int p1), .val (.int p2), .val (.long (0 : Int64)), .second, .val (.int (0 : Int32)), .unset]) rfl ?_
  exact h1

set_option maxRecDepth 65536 in
set_option maxHeartbeats 4000000 in
theorem wp_L_cycleSum_5 {l : Launch} {Z : State} {a0 : Array Value} (H : OK Z a0) (sl : Int32) (sv : Int32 → Int32) (F1 : Nat → Int32) (G1 : Nat → Int64) (A1 : Nat → Int32 → Int32) (B1 : Nat → Int32 → Int64) (v1 : Int32) (v2 : Int32) (w3 : Int64) (v5 : Int32) {Q : Option Value → WL → Prop} (h2 : ¬ v5 < v2 → Q (some (.long w3)) (sl, sv, [(7, F1, G1, A1, B1)])) (h4 : v5 < v2 → ¬ v5 < (129 : Int32) → Q (some (.long w3)) (sl, sv, [(7, F1, G1, A1, B1)])) (s5 : v5 < v2 → v5 < (129 : Int32) → (en_getTickTask F1 A1 v5).isSome = true) (h10 : v5 < v2 → v5 < (129 : Int32) → Wk l Z (MoL Z cdC "CyclicExecutiveL7" true) md_L_cycleSum 5 [.val (.ref 1), .val (.int v1), .val (.int v2), .val (.long (if (R_getTickTask F1 A1 v5) < 0 then w3 else (if (R_getTickTask F1 A1 v5) < v1 then (w3 + ((1 : Int64) <<< (((16 : Int32) * (R_getTickTask F1 A1 v5)).toInt64 &&& 63))) else w3))), .second, .val (.int (v5 + (1 : Int32))), .unset] [] (sl, sv, [(7, F1, G1, A1, B1)]) 0 0 Q) :
    Wk l Z (MoL Z cdC "CyclicExecutiveL7" true) md_L_cycleSum 5 [.val (.ref 1), .val (.int v1), .val (.int v2), .val (.long w3), .second, .val (.int v5), .unset] [] (sl, sv, [(7, F1, G1, A1, B1)]) 0 0 Q := by
  refine Wk.iload o_L_cycleSum_5 rfl ?_
  refine Wk.iloadN o_L_cycleSum_7 rfl ?_
  refine Wk.icmp_ge o_L_cycleSum_8 (fun q1 => ?_) (fun q1 => ?_)
  · refine Wk.lloadN o_L_cycleSum_54 rfl ?_
    exact Wk.lreturn mrL rfl o_L_cycleSum_55 rfl (by decide) (by decide) (h2 q1)
  · refine Wk.iload o_L_cycleSum_11 rfl ?_
    refine Wk.sipush o_L_cycleSum_13 (z := (129 : Int32)) (by decide) ?_
    refine Wk.icmp_ge o_L_cycleSum_16 (fun q3 => ?_) (fun q3 => ?_)
    · refine Wk.lloadN o_L_cycleSum_54 rfl ?_
      exact Wk.lreturn mrL rfl o_L_cycleSum_55 rfl (by decide) (by decide) (h4 q1 q3)
    · refine Wk.aloadN o_L_cycleSum_19 rfl ?_
      refine Wk.iload o_L_cycleSum_20 rfl ?_
      refine Wk.callLF (coC H) [.int v5] 0 [] (i' := 1) (H.w 127 rfl) (cv_getTickTask H) o_L_cycleSum_22 (run_getTickTask H F1 G1 A1 B1 v5 (s5 q1 q3)) (wt := 0) (cu' := 0) (su' := 0) (by decide) trivial rfl rfl rfl rfl rfl rfl rfl rfl rfl rfl (ws' := [(7, F1, G1, A1, B1)]) rfl ?_
      refine Wk.istore o_L_cycleSum_25 (Or.inl rfl) (L' := [.val (.ref 1), .val (.int v1), .val (.int v2), .val (.long w3), .second, .val (.int v5), .val (.int (R_getTickTask F1 A1 v5))]) rfl ?_
      refine Wk.iload o_L_cycleSum_27 rfl ?_
      have J9 : Wk l Z (MoL Z cdC "CyclicExecutiveL7" true) md_L_cycleSum 48 [.val (.ref 1), .val (.int v1), .val (.int v2), .val (.long (if (R_getTickTask F1 A1 v5) < 0 then w3 else (if (R_getTickTask F1 A1 v5) < v1 then (w3 + ((1 : Int64) <<< (((16 : Int32) * (R_getTickTask F1 A1 v5)).toInt64 &&& 63))) else w3))), .second, .val (.int v5), .val (.int (R_getTickTask F1 A1 v5))] [] (sl, sv, [(7, F1, G1, A1, B1)]) 0 0 Q := by
        refine Wk.iinc o_L_cycleSum_48 rfl (z := (v5 + (1 : Int32))) rfl (L' := [.val (.ref 1), .val (.int v1), .val (.int v2), .val (.long (if (R_getTickTask F1 A1 v5) < 0 then w3 else (if (R_getTickTask F1 A1 v5) < v1 then (w3 + ((1 : Int64) <<< (((16 : Int32) * (R_getTickTask F1 A1 v5)).toInt64 &&& 63))) else w3))), .second, .val (.int (v5 + (1 : Int32))), .val (.int (R_getTickTask F1 A1 v5))]) rfl ?_
        refine Wk.goto o_L_cycleSum_51 ?_
        refine Wk.forget [false, false, false, false, false, false, true] (L' := [.val (.ref 1), .val (.int v1), .val (.int v2), .val (.long (if (R_getTickTask F1 A1 v5) < 0 then w3 else (if (R_getTickTask F1 A1 v5) < v1 then (w3 + ((1 : Int64) <<< (((16 : Int32) * (R_getTickTask F1 A1 v5)).toInt64 &&& 63))) else w3))), .second, .val (.int (v5 + (1 : Int32))), .unset]) rfl rfl ?_
        exact (h10 q1 q3)
      refine Wk.if_lt o_L_cycleSum_29 (fun q6 => ?_) (fun q6 => ?_)
      · first | (rw [show ((if (R_getTickTask F1 A1 v5) < 0 then w3 else (if (R_getTickTask F1 A1 v5) < v1 then (w3 + ((1 : Int64) <<< (((16 : Int32) * (R_getTickTask F1 A1 v5)).toInt64 &&& 63))) else w3)) : Int64) = w3 from if_pos q6] at J9; exact J9) | exact J9 | (simp only [if_pos q6] at J9 ⊢; exact J9)
      · refine Wk.iload o_L_cycleSum_32 rfl ?_
        refine Wk.iloadN o_L_cycleSum_34 rfl ?_
        refine Wk.icmp_ge o_L_cycleSum_35 (fun q7 => ?_) (fun q7 => ?_)
        · first | (rw [show ((if (R_getTickTask F1 A1 v5) < 0 then w3 else (if (R_getTickTask F1 A1 v5) < v1 then (w3 + ((1 : Int64) <<< (((16 : Int32) * (R_getTickTask F1 A1 v5)).toInt64 &&& 63))) else w3)) : Int64) = w3 from Eq.trans (if_neg q6) <| if_neg q7] at J9; exact J9) | exact J9 | (simp only [if_neg q6, if_neg q7] at J9 ⊢; exact J9)
        · refine Wk.lloadN o_L_cycleSum_38 rfl ?_
          refine Wk.lconst o_L_cycleSum_39 (z := (1 : Int64)) (by decide) ?_
          refine Wk.bipush o_L_cycleSum_40 (z := (16 : Int32)) (by decide) ?_
          refine Wk.iload o_L_cycleSum_42 rfl ?_
          refine Wk.imul o_L_cycleSum_44 ?_
          refine Wk.lshl o_L_cycleSum_45 ?_
          refine Wk.ladd o_L_cycleSum_46 ?_
          refine Wk.forget [false, false, false, true, true, false, false] (L' := [.val (.ref 1), .val (.int v1), .val (.int v2), .unset, .unset, .val (.int v5), .val (.int (R_getTickTask F1 A1 v5))]) rfl rfl ?_
          refine Wk.lstoreN o_L_cycleSum_47 (Or.inl rfl) (Or.inl rfl) (L' := [.val (.ref 1), .val (.int v1), .val (.int v2), .val (.long (w3 + ((1 : Int64) <<< (((16 : Int32) * (R_getTickTask F1 A1 v5)).toInt64 &&& 63)))), .second, .val (.int v5), .val (.int (R_getTickTask F1 A1 v5))]) rfl ?_
          first | (rw [show ((if (R_getTickTask F1 A1 v5) < 0 then w3 else (if (R_getTickTask F1 A1 v5) < v1 then (w3 + ((1 : Int64) <<< (((16 : Int32) * (R_getTickTask F1 A1 v5)).toInt64 &&& 63))) else w3)) : Int64) = (w3 + ((1 : Int64) <<< (((16 : Int32) * (R_getTickTask F1 A1 v5)).toInt64 &&& 63))) from Eq.trans (if_neg q6) <| if_pos q7] at J9; exact J9) | exact J9 | (simp only [if_neg q6, if_pos q7] at J9 ⊢; exact J9)

theorem rt_L_cycleSum (sl : Int32) (sv : Int32 → Int32) (F1 : Nat → Int32) (G1 : Nat → Int64) (A1 : Nat → Int32 → Int32) (B1 : Nat → Int32 → Int64) (v0 : Int64) (r : Int64) (e : v0 = r) : some (Value.long v0) = some (Value.long r) ∧ (sl, sv, [(7, F1, G1, A1, B1)]) = (sl, sv, [(7, F1, G1, A1, B1)]) := by subst e; exact ⟨rfl, rfl⟩
def lp_L_cycleSum : Nat → Nat → Int32 → Int32 → Int64 → Int32 → (Nat → Int32) → (Nat → Int32 → Int32) → Option (Int64)
  | 0, _, _, _, _, _, _, _ => none
  | n + 1, tag, v1, v2, w3, v5, F1, A1 => if tag = 5 then (if v5 < v2 then (if v5 < (129 : Int32) then (if ((en_getTickTask F1 A1 v5).isSome = true) then lp_L_cycleSum n 5 v1 v2 (if (R_getTickTask F1 A1 v5) < 0 then w3 else (if (R_getTickTask F1 A1 v5) < v1 then (w3 + ((1 : Int64) <<< (((16 : Int32) * (R_getTickTask F1 A1 v5)).toInt64 &&& 63))) else w3)) (v5 + (1 : Int32)) F1 A1 else none) else some (w3)) else some (w3)) else none
theorem lp_L_cycleSum_z (tag : Nat) (v1 : Int32) (v2 : Int32) (w3 : Int64) (v5 : Int32) (F1 : Nat → Int32) (A1 : Nat → Int32 → Int32) : lp_L_cycleSum 0 tag  v1 v2 w3 v5 F1 A1 = none := Eq.trans rfl rfl
theorem lp_L_cycleSum_5 (n : Nat) (v1 : Int32) (v2 : Int32) (w3 : Int64) (v5 : Int32) (F1 : Nat → Int32) (A1 : Nat → Int32 → Int32) : lp_L_cycleSum (n + 1) 5  v1 v2 w3 v5 F1 A1 = (if v5 < v2 then (if v5 < (129 : Int32) then (if ((en_getTickTask F1 A1 v5).isSome = true) then lp_L_cycleSum n 5 v1 v2 (if (R_getTickTask F1 A1 v5) < 0 then w3 else (if (R_getTickTask F1 A1 v5) < v1 then (w3 + ((1 : Int64) <<< (((16 : Int32) * (R_getTickTask F1 A1 v5)).toInt64 &&& 63))) else w3)) (v5 + (1 : Int32)) F1 A1 else none) else some (w3)) else some (w3)) := by
  rw [lp_L_cycleSum, if_pos rfl]
set_option maxRecDepth 65536 in
set_option maxHeartbeats 4000000 in
theorem lpw_L_cycleSum {l : Launch} {Z : State} {a0 : Array Value} (H : OK Z a0) (sl : Int32) (sv : Int32 → Int32) (F1 : Nat → Int32) (G1 : Nat → Int64) (A1 : Nat → Int32 → Int32) (B1 : Nat → Int32 → Int64) : ∀ (n : Nat) (v1 : Int32) (v2 : Int32) (w3 : Int64) (v5 : Int32) (r : Int64), (lp_L_cycleSum n 5  v1 v2 w3 v5 F1 A1 = some r → Wk l Z (MoL Z cdC "CyclicExecutiveL7" true) md_L_cycleSum 5 [.val (.ref 1), .val (.int v1), .val (.int v2), .val (.long w3), .second, .val (.int v5), .unset] [] (sl, sv, [(7, F1, G1, A1, B1)]) 0 0 (fun v w' => v = some (.long r) ∧ w' = (sl, sv, [(7, F1, G1, A1, B1)]))) := by
  intro n
  induction n with
  | zero =>
    intro v1 v2 w3 v5  r
    exact (fun h => by rw [lp_L_cycleSum_z] at h; cases h)
  | succ n ih =>
    intro v1 v2 w3 v5  r
    refine fun h => ?_
    · rw [lp_L_cycleSum_5] at h
      exact wp_L_cycleSum_5 H sl sv F1 G1 A1 B1 v1 v2 w3 v5 (fun q1 => (rt_L_cycleSum _ _ _ _ _ _ _ r (Option.some.inj (ifn q1 h)))) (fun q1 q3 => (rt_L_cycleSum _ _ _ _ _ _ _ r (Option.some.inj (ifn q3 (ifp q1 h))))) (fun q1 q3 => (gd (ifp q3 (ifp q1 h))).1) (fun q1 q3 => (ih _ _ _ _ _) (gd (ifp q3 (ifp q1 h))).2)
def en_L_cycleSum (F1 : Nat → Int32) (A1 : Nat → Int32 → Int32) (p1 : Int32) (p2 : Int32) : Option (Int64) := lp_L_cycleSum 1000 5 p1 p2 (0 : Int64) (0 : Int32) F1 A1
theorem een_L_cycleSum (F1 : Nat → Int32) (A1 : Nat → Int32 → Int32) (p1 : Int32) (p2 : Int32) : en_L_cycleSum  F1 A1 p1 p2 = lp_L_cycleSum 1000 5 p1 p2 (0 : Int64) (0 : Int32) F1 A1 := Eq.trans rfl rfl
def R_L_cycleSum (F1 : Nat → Int32) (A1 : Nat → Int32 → Int32) (p1 : Int32) (p2 : Int32) : Int64 := (en_L_cycleSum  F1 A1 p1 p2).getD (0)
theorem eR_L_cycleSum (F1 : Nat → Int32) (A1 : Nat → Int32 → Int32) (p1 : Int32) (p2 : Int32) : R_L_cycleSum  F1 A1 p1 p2 = (en_L_cycleSum  F1 A1 p1 p2).getD (0) := Eq.trans rfl rfl
set_option maxRecDepth 65536 in
set_option maxHeartbeats 4000000 in
theorem run_L_cycleSum {l : Launch} {Z : State} {a0 : Array Value} (H : OK Z a0) (sl : Int32) (sv : Int32 → Int32) (F1 : Nat → Int32) (G1 : Nat → Int64) (A1 : Nat → Int32 → Int32) (B1 : Nat → Int32 → Int64) (p1 : Int32) (p2 : Int32) (e1 : (en_L_cycleSum  F1 A1 p1 p2).isSome = true) :
    Wk l Z (MoL Z cdC "CyclicExecutiveL7" true) md_L_cycleSum 0 [.val (.ref 1), .val (.int p1), .val (.int p2), .unset, .unset, .unset, .unset] [] (sl, sv, [(7, F1, G1, A1, B1)]) 0 0 (fun v w' => v = some (.long (R_L_cycleSum  F1 A1 p1 p2)) ∧ w' = (sl, sv, [(7, F1, G1, A1, B1)])) := by
  obtain ⟨r, h⟩ := Option.isSome_iff_exists.mp e1
  have e : R_L_cycleSum  F1 A1 p1 p2 = r := (eR_L_cycleSum  F1 A1 p1 p2).trans (getD_some h)
  rw [e]
  rw [een_L_cycleSum] at h
  exact wp_L_cycleSum H sl sv F1 G1 A1 B1 p1 p2 ((lpw_L_cycleSum H sl sv _ _ _ _ _ _ _ _ _ _) h)
set_option maxRecDepth 65536 in
set_option maxHeartbeats 4000000 in
theorem wp_L_law {l : Launch} {Z : State} {a0 : Array Value} (H : OK Z a0) (sl : Int32) (sv : Int32 → Int32) {Q : Option Value → WL → Prop} (h1 : Wk l Z (MoL Z cdC "CyclicExecutiveL7" true) md_L_law 11 [.val (.ref 0), .val (.ref 1), .unset, .unset, .unset, .unset, .unset, .unset, .unset, .unset, .unset, .unset, .unset, .unset, .unset, .unset, .unset, .unset, .unset] [] (sl, sv, [(7, (F_init (4 : Int32) (60 : Int32)), (fun _ => 0), (fun _ _ => 0), (fun _ _ => 0))]) 8 1328 Q) :
    Wk l Z (MoL Z cdC "CyclicExecutiveL7" true) md_L_law 0 [.val (.ref 0), .unset, .unset, .unset, .unset, .unset, .unset, .unset, .unset, .unset, .unset, .unset, .unset, .unset, .unset, .unset, .unset, .unset, .unset] [] (sl, sv, []) 0 0 Q := by
  refine Wk.newL (coC H) (kk := 16) (H.w 0 rfl) (H.w 1 rfl) (wz_C H) o_L_law_0 trivial (i' := 1) rfl (ws' := [(0, (fun _ => 0), (fun _ => 0), (fun _ _ => 0), (fun _ _ => 0))]) rfl (cu' := 1) rfl (su' := 16) rfl (by decide) (by decide) ?_
  refine Wk.dup o_L_law_3 rfl ?_
  refine Wk.iconst o_L_law_4 (z := (4 : Int32)) (by decide) ?_
  refine Wk.bipush o_L_law_5 (z := (60 : Int32)) (by decide) ?_
  refine Wk.ctorLU (coC H) [.int (4 : Int32), .int (60 : Int32)] 0 [.ref 1] (i' := 1) (H.w 3 rfl) (cv_init H) o_L_law_7 (run_init H (4 : Int32) (60 : Int32)) (wt := 1) (cu' := 8) (su' := 1328) (by decide) trivial rfl rfl rfl rfl rfl rfl rfl rfl rfl rfl (ws' := [(7, (F_init (4 : Int32) (60 : Int32)), (fun _ => 0), (fun _ _ => 0), (fun _ _ => 0))]) rfl ?_
  refine Wk.astoreN o_L_law_10 (Or.inl rfl) (L' := [.val (.ref 0), .val (.ref 1), .unset, .unset, .unset, .unset, .unset, .unset, .unset, .unset, .unset, .unset, .unset, .unset, .unset, .unset, .unset, .unset, .unset]) rfl ?_
  exact h1

set_option maxRecDepth 65536 in
set_option maxHeartbeats 4000000 in
theorem wp_L_law_11 {l : Launch} {Z : State} {a0 : Array Value} (H : OK Z a0) (sl : Int32) (sv : Int32 → Int32) (F1 : Nat → Int32) (G1 : Nat → Int64) (A1 : Nat → Int32 → Int32) (B1 : Nat → Int32 → Int64) {Q : Option Value → WL → Prop} (h1 : Wk l Z (MoL Z cdC "CyclicExecutiveL7" true) md_L_law 13 [.val (.ref 0), .val (.ref 1), .val (.int (0 : Int32)), .unset, .unset, .unset, .unset, .unset, .unset, .unset, .unset, .unset, .unset, .unset, .unset, .unset, .unset, .unset, .unset] [] (sl, sv, [(7, F1, G1, A1, B1)]) 8 1328 Q) :
    Wk l Z (MoL Z cdC "CyclicExecutiveL7" true) md_L_law 11 [.val (.ref 0), .val (.ref 1), .unset, .unset, .unset, .unset, .unset, .unset, .unset, .unset, .unset, .unset, .unset, .unset, .unset, .unset, .unset, .unset, .unset] [] (sl, sv, [(7, F1, G1, A1, B1)]) 8 1328 Q := by
  refine Wk.iconst o_L_law_11 (z := (0 : Int32)) (by decide) ?_
  refine Wk.istoreN o_L_law_12 (Or.inl rfl) (L' := [.val (.ref 0), .val (.ref 1), .val (.int (0 : Int32)), .unset, .unset, .unset, .unset, .unset, .unset, .unset, .unset, .unset, .unset, .unset, .unset, .unset, .unset, .unset, .unset]) rfl ?_
  exact h1

set_option maxRecDepth 65536 in
set_option maxHeartbeats 4000000 in
theorem wp_L_law_13 {l : Launch} {Z : State} {a0 : Array Value} (H : OK Z a0) (sl : Int32) (sv : Int32 → Int32) (F1 : Nat → Int32) (G1 : Nat → Int64) (A1 : Nat → Int32 → Int32) (B1 : Nat → Int32 → Int64) (v2 : Int32) {Q : Option Value → WL → Prop} (h2 : ¬ (v2 + (3 : Int32)) < sl → Q (some (.int (1 : Int32))) (sl, sv, [(7, F1, G1, A1, B1)])) (h4 : (v2 + (3 : Int32)) < sl → ¬ v2 < (400 : Int32) → Q (some (.int (1 : Int32))) (sl, sv, [(7, F1, G1, A1, B1)])) (s5 : (v2 + (3 : Int32)) < sl → v2 < (400 : Int32) → ¬ v2 < 0) (s6 : (v2 + (3 : Int32)) < sl → v2 < (400 : Int32) → v2 < sl) (s7 : (v2 + (3 : Int32)) < sl → v2 < (400 : Int32) → ¬ (v2 + (1 : Int32)) < 0) (s8 : (v2 + (3 : Int32)) < sl → v2 < (400 : Int32) → (v2 + (1 : Int32)) < sl) (s9 : (v2 + (3 : Int32)) < sl → v2 < (400 : Int32) → ¬ (v2 + (2 : Int32)) < 0) (s10 : (v2 + (3 : Int32)) < sl → v2 < (400 : Int32) → (v2 + (2 : Int32)) < sl) (s11 : (v2 + (3 : Int32)) < sl → v2 < (400 : Int32) → ¬ (v2 + (3 : Int32)) < 0) (s14 : (v2 + (3 : Int32)) < sl → v2 < (400 : Int32) → (1 : Int32) < ((sv v2) &&& (3 : Int32)) → ¬ ((sv v2) &&& (3 : Int32)) = (2 : Int32) → (en_run F1 A1 (((sv (v2 + (1 : Int32))) &&& (63 : Int32)) - (2 : Int32))).isSome = true) (h15 : (v2 + (3 : Int32)) < sl → v2 < (400 : Int32) → (1 : Int32) < ((sv v2) &&& (3 : Int32)) → ¬ ((sv v2) &&& (3 : Int32)) = (2 : Int32) → Wk l Z (MoL Z cdC "CyclicExecutiveL7" true) md_L_law 140 [.val (.ref 0), .val (.ref 1), .val (.int v2), .unset, .unset, .unset, .unset, .unset, .unset, .unset, .unset, .unset, .unset, .unset, .unset, .unset, .unset, .unset, .unset] [] (sl, sv, [(7, (R_run F1 A1 (((sv (v2 + (1 : Int32))) &&& (63 : Int32)) - (2 : Int32))).2.1, G1, (R_run F1 A1 (((sv (v2 + (1 : Int32))) &&& (63 : Int32)) - (2 : Int32))).2.2, B1)]) 8 1328 Q) (s16 : (v2 + (3 : Int32)) < sl → v2 < (400 : Int32) → (1 : Int32) < ((sv v2) &&& (3 : Int32)) → ((sv v2) &&& (3 : Int32)) = (2 : Int32) → (en_build F1 A1 (((sv (v2 + (1 : Int32))) &&& (7 : Int32)) + (1 : Int32))).isSome = true) (h17 : (v2 + (3 : Int32)) < sl → v2 < (400 : Int32) → (1 : Int32) < ((sv v2) &&& (3 : Int32)) → ((sv v2) &&& (3 : Int32)) = (2 : Int32) → Wk l Z (MoL Z cdC "CyclicExecutiveL7" true) md_L_law 140 [.val (.ref 0), .val (.ref 1), .val (.int v2), .unset, .unset, .unset, .unset, .unset, .unset, .unset, .unset, .unset, .unset, .unset, .unset, .unset, .unset, .unset, .unset] [] (sl, sv, [(7, (R_build F1 A1 (((sv (v2 + (1 : Int32))) &&& (7 : Int32)) + (1 : Int32))).2.1, G1, (R_build F1 A1 (((sv (v2 + (1 : Int32))) &&& (7 : Int32)) + (1 : Int32))).2.2, B1)]) 8 1328 Q) (s18 : (v2 + (3 : Int32)) < sl → v2 < (400 : Int32) → ¬ (1 : Int32) < ((sv v2) &&& (3 : Int32)) → (en_addTask F1 A1 (((sv (v2 + (1 : Int32))) &&& (7 : Int32)) + (1 : Int32)) (((sv (v2 + (2 : Int32))) &&& (3 : Int32)) + (1 : Int32)) ((((sv (v2 + (1 : Int32))) &&& (7 : Int32)) + (1 : Int32)) - ((sv (v2 + (3 : Int32))) &&& (1 : Int32)))).isSome = true) (h19 : (v2 + (3 : Int32)) < sl → v2 < (400 : Int32) → ¬ (1 : Int32) < ((sv v2) &&& (3 : Int32)) → Wk l Z (MoL Z cdC "CyclicExecutiveL7" true) md_L_law 140 [.val (.ref 0), .val (.ref 1), .val (.int v2), .unset, .unset, .unset, .unset, .unset, .unset, .unset, .unset, .unset, .unset, .unset, .unset, .unset, .unset, .unset, .unset] [] (sl, sv, [(7, (R_addTask F1 A1 (((sv (v2 + (1 : Int32))) &&& (7 : Int32)) + (1 : Int32)) (((sv (v2 + (2 : Int32))) &&& (3 : Int32)) + (1 : Int32)) ((((sv (v2 + (1 : Int32))) &&& (7 : Int32)) + (1 : Int32)) - ((sv (v2 + (3 : Int32))) &&& (1 : Int32)))).2.1, G1, (R_addTask F1 A1 (((sv (v2 + (1 : Int32))) &&& (7 : Int32)) + (1 : Int32)) (((sv (v2 + (2 : Int32))) &&& (3 : Int32)) + (1 : Int32)) ((((sv (v2 + (1 : Int32))) &&& (7 : Int32)) + (1 : Int32)) - ((sv (v2 + (3 : Int32))) &&& (1 : Int32)))).2.2, B1)]) 8 1328 Q) :
    Wk l Z (MoL Z cdC "CyclicExecutiveL7" true) md_L_law 13 [.val (.ref 0), .val (.ref 1), .val (.int v2), .unset, .unset, .unset, .unset, .unset, .unset, .unset, .unset, .unset, .unset, .unset, .unset, .unset, .unset, .unset, .unset] [] (sl, sv, [(7, F1, G1, A1, B1)]) 8 1328 Q := by
  refine Wk.iloadN o_L_law_13 rfl ?_
  refine Wk.iconst o_L_law_14 (z := (3 : Int32)) (by decide) ?_
  refine Wk.iadd o_L_law_15 ?_
  refine Wk.aloadN o_L_law_16 rfl ?_
  refine Wk.lenL o_L_law_17 ?_
  refine Wk.icmp_ge o_L_law_18 (fun q1 => ?_) (fun q1 => ?_)
  · refine Wk.iconst o_L_law_383 (z := (1 : Int32)) (by decide) ?_
    exact Wk.zreturn mrL rfl o_L_law_384 rfl (by decide) (by decide) (y := (1 : Int32)) (by decide) (h2 q1)
  · refine Wk.iloadN o_L_law_21 rfl ?_
    refine Wk.sipush o_L_law_22 (z := (400 : Int32)) (by decide) ?_
    refine Wk.icmp_ge o_L_law_25 (fun q3 => ?_) (fun q3 => ?_)
    · refine Wk.iconst o_L_law_383 (z := (1 : Int32)) (by decide) ?_
      exact Wk.zreturn mrL rfl o_L_law_384 rfl (by decide) (by decide) (y := (1 : Int32)) (by decide) (h4 q1 q3)
    · refine Wk.aloadN o_L_law_28 rfl ?_
      refine Wk.iloadN o_L_law_29 rfl ?_
      refine Wk.ialoadL (s5 q1 q3) (s6 q1 q3) o_L_law_30 ?_
      refine Wk.iconst o_L_law_31 (z := (3 : Int32)) (by decide) ?_
      refine Wk.iand o_L_law_32 ?_
      refine Wk.istoreN o_L_law_33 (Or.inl rfl) (L' := [.val (.ref 0), .val (.ref 1), .val (.int v2), .val (.int ((sv v2) &&& (3 : Int32))), .unset, .unset, .unset, .unset, .unset, .unset, .unset, .unset, .unset, .unset, .unset, .unset, .unset, .unset, .unset]) rfl ?_
      refine Wk.aloadN o_L_law_34 rfl ?_
      refine Wk.iloadN o_L_law_35 rfl ?_
      refine Wk.iconst o_L_law_36 (z := (1 : Int32)) (by decide) ?_
      refine Wk.iadd o_L_law_37 ?_
      refine Wk.ialoadL (s7 q1 q3) (s8 q1 q3) o_L_law_38 ?_
      refine Wk.istore o_L_law_39 (Or.inl rfl) (L' := [.val (.ref 0), .val (.ref 1), .val (.int v2), .val (.int ((sv v2) &&& (3 : Int32))), .val (.int (sv (v2 + (1 : Int32)))), .unset, .unset, .unset, .unset, .unset, .unset, .unset, .unset, .unset, .unset, .unset, .unset, .unset, .unset]) rfl ?_
      refine Wk.aloadN o_L_law_41 rfl ?_
      refine Wk.iloadN o_L_law_42 rfl ?_
      refine Wk.iconst o_L_law_43 (z := (2 : Int32)) (by decide) ?_
      refine Wk.iadd o_L_law_44 ?_
      refine Wk.ialoadL (s9 q1 q3) (s10 q1 q3) o_L_law_45 ?_
      refine Wk.istore o_L_law_46 (Or.inl rfl) (L' := [.val (.ref 0), .val (.ref 1), .val (.int v2), .val (.int ((sv v2) &&& (3 : Int32))), .val (.int (sv (v2 + (1 : Int32)))), .val (.int (sv (v2 + (2 : Int32)))), .unset, .unset, .unset, .unset, .unset, .unset, .unset, .unset, .unset, .unset, .unset, .unset, .unset]) rfl ?_
      refine Wk.aloadN o_L_law_48 rfl ?_
      refine Wk.iloadN o_L_law_49 rfl ?_
      refine Wk.iconst o_L_law_50 (z := (3 : Int32)) (by decide) ?_
      refine Wk.iadd o_L_law_51 ?_
      refine Wk.ialoadL (s11 q1 q3) q1 o_L_law_52 ?_
      refine Wk.istore o_L_law_53 (Or.inl rfl) (L' := [.val (.ref 0), .val (.ref 1), .val (.int v2), .val (.int ((sv v2) &&& (3 : Int32))), .val (.int (sv (v2 + (1 : Int32)))), .val (.int (sv (v2 + (2 : Int32)))), .val (.int (sv (v2 + (3 : Int32)))), .unset, .unset, .unset, .unset, .unset, .unset, .unset, .unset, .unset, .unset, .unset, .unset]) rfl ?_
      refine Wk.iloadN o_L_law_55 rfl ?_
      refine Wk.iconst o_L_law_56 (z := (1 : Int32)) (by decide) ?_
      refine Wk.icmp_gt o_L_law_57 (fun q12 => ?_) (fun q12 => ?_)
      · refine Wk.iloadN o_L_law_100 rfl ?_
        refine Wk.iconst o_L_law_101 (z := (2 : Int32)) (by decide) ?_
        refine Wk.icmp_ne o_L_law_102 (fun q13 => ?_) (fun q13 => ?_)
        · refine Wk.iload o_L_law_124 rfl ?_
          refine Wk.bipush o_L_law_126 (z := (63 : Int32)) (by decide) ?_
          refine Wk.iand o_L_law_128 ?_
          refine Wk.iconst o_L_law_129 (z := (2 : Int32)) (by decide) ?_
          refine Wk.isub o_L_law_130 ?_
          refine Wk.istore o_L_law_131 (Or.inl rfl) (L' := [.val (.ref 0), .val (.ref 1), .val (.int v2), .val (.int ((sv v2) &&& (3 : Int32))), .val (.int (sv (v2 + (1 : Int32)))), .val (.int (sv (v2 + (2 : Int32)))), .val (.int (sv (v2 + (3 : Int32)))), .val (.int (((sv (v2 + (1 : Int32))) &&& (63 : Int32)) - (2 : Int32))), .unset, .unset, .unset, .unset, .unset, .unset, .unset, .unset, .unset, .unset, .unset]) rfl ?_
          refine Wk.aloadN o_L_law_133 rfl ?_
          refine Wk.iload o_L_law_134 rfl ?_
          refine Wk.callLF (coC H) [.int (((sv (v2 + (1 : Int32))) &&& (63 : Int32)) - (2 : Int32))] 0 [] (i' := 1) (H.w 46 rfl) (cv_run H) o_L_law_136 (run_run H F1 G1 A1 B1 (((sv (v2 + (1 : Int32))) &&& (63 : Int32)) - (2 : Int32)) (s14 q1 q3 q12 q13)) (wt := 0) (cu' := 8) (su' := 1328) (by decide) trivial rfl rfl rfl rfl rfl rfl rfl rfl rfl rfl (ws' := [(7, (R_run F1 A1 (((sv (v2 + (1 : Int32))) &&& (63 : Int32)) - (2 : Int32))).2.1, G1, (R_run F1 A1 (((sv (v2 + (1 : Int32))) &&& (63 : Int32)) - (2 : Int32))).2.2, B1)]) rfl ?_
          refine Wk.pop o_L_law_139 rfl ?_
          refine Wk.forget [false, false, false, true, true, true, true, true, false, false, false, false, false, false, false, false, false, false, false] (L' := [.val (.ref 0), .val (.ref 1), .val (.int v2), .unset, .unset, .unset, .unset, .unset, .unset, .unset, .unset, .unset, .unset, .unset, .unset, .unset, .unset, .unset, .unset]) rfl rfl ?_
          exact (h15 q1 q3 q12 q13)
        · refine Wk.iload o_L_law_105 rfl ?_
          refine Wk.bipush o_L_law_107 (z := (7 : Int32)) (by decide) ?_
          refine Wk.iand o_L_law_109 ?_
          refine Wk.iconst o_L_law_110 (z := (1 : Int32)) (by decide) ?_
          refine Wk.iadd o_L_law_111 ?_
          refine Wk.istore o_L_law_112 (Or.inl rfl) (L' := [.val (.ref 0), .val (.ref 1), .val (.int v2), .val (.int ((sv v2) &&& (3 : Int32))), .val (.int (sv (v2 + (1 : Int32)))), .val (.int (sv (v2 + (2 : Int32)))), .val (.int (sv (v2 + (3 : Int32)))), .val (.int (((sv (v2 + (1 : Int32))) &&& (7 : Int32)) + (1 : Int32))), .unset, .unset, .unset, .unset, .unset, .unset, .unset, .unset, .unset, .unset, .unset]) rfl ?_
          refine Wk.aloadN o_L_law_114 rfl ?_
          refine Wk.iload o_L_law_115 rfl ?_
          refine Wk.callLF (coC H) [.int (((sv (v2 + (1 : Int32))) &&& (7 : Int32)) + (1 : Int32))] 0 [] (i' := 1) (H.w 68 rfl) (cv_build H) o_L_law_117 (run_build H F1 G1 A1 B1 (((sv (v2 + (1 : Int32))) &&& (7 : Int32)) + (1 : Int32)) (s16 q1 q3 q12 q13)) (wt := 0) (cu' := 8) (su' := 1328) (by decide) trivial rfl rfl rfl rfl rfl rfl rfl rfl rfl rfl (ws' := [(7, (R_build F1 A1 (((sv (v2 + (1 : Int32))) &&& (7 : Int32)) + (1 : Int32))).2.1, G1, (R_build F1 A1 (((sv (v2 + (1 : Int32))) &&& (7 : Int32)) + (1 : Int32))).2.2, B1)]) rfl ?_
          refine Wk.pop o_L_law_120 rfl ?_
          refine Wk.goto o_L_law_121 ?_
          refine Wk.forget [false, false, false, true, true, true, true, true, false, false, false, false, false, false, false, false, false, false, false] (L' := [.val (.ref 0), .val (.ref 1), .val (.int v2), .unset, .unset, .unset, .unset, .unset, .unset, .unset, .unset, .unset, .unset, .unset, .unset, .unset, .unset, .unset, .unset]) rfl rfl ?_
          exact (h17 q1 q3 q12 q13)
      · refine Wk.iload o_L_law_60 rfl ?_
        refine Wk.bipush o_L_law_62 (z := (7 : Int32)) (by decide) ?_
        refine Wk.iand o_L_law_64 ?_
        refine Wk.iconst o_L_law_65 (z := (1 : Int32)) (by decide) ?_
        refine Wk.iadd o_L_law_66 ?_
        refine Wk.istore o_L_law_67 (Or.inl rfl) (L' := [.val (.ref 0), .val (.ref 1), .val (.int v2), .val (.int ((sv v2) &&& (3 : Int32))), .val (.int (sv (v2 + (1 : Int32)))), .val (.int (sv (v2 + (2 : Int32)))), .val (.int (sv (v2 + (3 : Int32)))), .val (.int (((sv (v2 + (1 : Int32))) &&& (7 : Int32)) + (1 : Int32))), .unset, .unset, .unset, .unset, .unset, .unset, .unset, .unset, .unset, .unset, .unset]) rfl ?_
        refine Wk.iload o_L_law_69 rfl ?_
        refine Wk.iconst o_L_law_71 (z := (3 : Int32)) (by decide) ?_
        refine Wk.iand o_L_law_72 ?_
        refine Wk.iconst o_L_law_73 (z := (1 : Int32)) (by decide) ?_
        refine Wk.iadd o_L_law_74 ?_
        refine Wk.istore o_L_law_75 (Or.inl rfl) (L' := [.val (.ref 0), .val (.ref 1), .val (.int v2), .val (.int ((sv v2) &&& (3 : Int32))), .val (.int (sv (v2 + (1 : Int32)))), .val (.int (sv (v2 + (2 : Int32)))), .val (.int (sv (v2 + (3 : Int32)))), .val (.int (((sv (v2 + (1 : Int32))) &&& (7 : Int32)) + (1 : Int32))), .val (.int (((sv (v2 + (2 : Int32))) &&& (3 : Int32)) + (1 : Int32))), .unset, .unset, .unset, .unset, .unset, .unset, .unset, .unset, .unset, .unset]) rfl ?_
        refine Wk.iload o_L_law_77 rfl ?_
        refine Wk.iload o_L_law_79 rfl ?_
        refine Wk.iconst o_L_law_81 (z := (1 : Int32)) (by decide) ?_
        refine Wk.iand o_L_law_82 ?_
        refine Wk.isub o_L_law_83 ?_
        refine Wk.istore o_L_law_84 (Or.inl rfl) (L' := [.val (.ref 0), .val (.ref 1), .val (.int v2), .val (.int ((sv v2) &&& (3 : Int32))), .val (.int (sv (v2 + (1 : Int32)))), .val (.int (sv (v2 + (2 : Int32)))), .val (.int (sv (v2 + (3 : Int32)))), .val (.int (((sv (v2 + (1 : Int32))) &&& (7 : Int32)) + (1 : Int32))), .val (.int (((sv (v2 + (2 : Int32))) &&& (3 : Int32)) + (1 : Int32))), .val (.int ((((sv (v2 + (1 : Int32))) &&& (7 : Int32)) + (1 : Int32)) - ((sv (v2 + (3 : Int32))) &&& (1 : Int32)))), .unset, .unset, .unset, .unset, .unset, .unset, .unset, .unset, .unset]) rfl ?_
        refine Wk.aloadN o_L_law_86 rfl ?_
        refine Wk.iload o_L_law_87 rfl ?_
        refine Wk.iload o_L_law_89 rfl ?_
        refine Wk.iload o_L_law_91 rfl ?_
        refine Wk.callLF (coC H) [.int (((sv (v2 + (1 : Int32))) &&& (7 : Int32)) + (1 : Int32)), .int (((sv (v2 + (2 : Int32))) &&& (3 : Int32)) + (1 : Int32)), .int ((((sv (v2 + (1 : Int32))) &&& (7 : Int32)) + (1 : Int32)) - ((sv (v2 + (3 : Int32))) &&& (1 : Int32)))] 0 [] (i' := 1) (H.w 51 rfl) (cv_addTask H) o_L_law_93 (run_addTask H F1 G1 A1 B1 (((sv (v2 + (1 : Int32))) &&& (7 : Int32)) + (1 : Int32)) (((sv (v2 + (2 : Int32))) &&& (3 : Int32)) + (1 : Int32)) ((((sv (v2 + (1 : Int32))) &&& (7 : Int32)) + (1 : Int32)) - ((sv (v2 + (3 : Int32))) &&& (1 : Int32))) (s18 q1 q3 q12)) (wt := 0) (cu' := 8) (su' := 1328) (by decide) trivial rfl rfl rfl rfl rfl rfl rfl rfl rfl rfl (ws' := [(7, (R_addTask F1 A1 (((sv (v2 + (1 : Int32))) &&& (7 : Int32)) + (1 : Int32)) (((sv (v2 + (2 : Int32))) &&& (3 : Int32)) + (1 : Int32)) ((((sv (v2 + (1 : Int32))) &&& (7 : Int32)) + (1 : Int32)) - ((sv (v2 + (3 : Int32))) &&& (1 : Int32)))).2.1, G1, (R_addTask F1 A1 (((sv (v2 + (1 : Int32))) &&& (7 : Int32)) + (1 : Int32)) (((sv (v2 + (2 : Int32))) &&& (3 : Int32)) + (1 : Int32)) ((((sv (v2 + (1 : Int32))) &&& (7 : Int32)) + (1 : Int32)) - ((sv (v2 + (3 : Int32))) &&& (1 : Int32)))).2.2, B1)]) rfl ?_
        refine Wk.pop o_L_law_96 rfl ?_
        refine Wk.goto o_L_law_97 ?_
        refine Wk.forget [false, false, false, true, true, true, true, true, true, true, false, false, false, false, false, false, false, false, false] (L' := [.val (.ref 0), .val (.ref 1), .val (.int v2), .unset, .unset, .unset, .unset, .unset, .unset, .unset, .unset, .unset, .unset, .unset, .unset, .unset, .unset, .unset, .unset]) rfl rfl ?_
        exact (h19 q1 q3 q12)

set_option maxRecDepth 65536 in
set_option maxHeartbeats 4000000 in
theorem wp_L_law_140 {l : Launch} {Z : State} {a0 : Array Value} (H : OK Z a0) (sl : Int32) (sv : Int32 → Int32) (F1 : Nat → Int32) (G1 : Nat → Int64) (A1 : Nat → Int32 → Int32) (B1 : Nat → Int32 → Int64) (v2 : Int32) {Q : Option Value → WL → Prop} (s1 : ¬ v2 < 0) (s2 : v2 < sl) (h4 : ((sv v2) &&& (4 : Int32)) = 0 → Wk l Z (MoL Z cdC "CyclicExecutiveL7" true) md_L_law 13 [.val (.ref 0), .val (.ref 1), .val (.int (v2 + (4 : Int32))), .unset, .unset, .unset, .unset, .unset, .unset, .unset, .unset, .unset, .unset, .unset, .unset, .unset, .unset, .unset, .unset] [] (sl, sv, [(7, F1, G1, A1, B1)]) 8 1328 Q) (h7 : ¬ ((sv v2) &&& (4 : Int32)) = 0 → 0 < (f_getFrame F1) → (f_getHyperperiod F1) < (1 : Int32) → Q (some (.int (0 : Int32))) (sl, sv, [(7, F1, G1, A1, B1)])) (h9 : ¬ ((sv v2) &&& (4 : Int32)) = 0 → 0 < (f_getFrame F1) → ¬ (f_getHyperperiod F1) < (1 : Int32) → (60 : Int32) < (f_getHyperperiod F1) → Q (some (.int (0 : Int32))) (sl, sv, [(7, F1, G1, A1, B1)])) (h11 : ¬ ((sv v2) &&& (4 : Int32)) = 0 → 0 < (f_getFrame F1) → ¬ (f_getHyperperiod F1) < (1 : Int32) → ¬ (60 : Int32) < (f_getHyperperiod F1) → (f_getTaskCount F1) < (1 : Int32) → Q (some (.int (0 : Int32))) (sl, sv, [(7, F1, G1, A1, B1)])) (s13 : ¬ ((sv v2) &&& (4 : Int32)) = 0 → 0 < (f_getFrame F1) → ¬ (f_getHyperperiod F1) < (1 : Int32) → ¬ (60 : Int32) < (f_getHyperperiod F1) → ¬ (f_getTaskCount F1) < (1 : Int32) → ¬ (4 : Int32) < (f_getTaskCount F1) → (en_L_tableSum  F1 A1 (f_getHyperperiod F1)).isSome = true) (s14 : ¬ ((sv v2) &&& (4 : Int32)) = 0 → 0 < (f_getFrame F1) → ¬ (f_getHyperperiod F1) < (1 : Int32) → ¬ (60 : Int32) < (f_getHyperperiod F1) → ¬ (f_getTaskCount F1) < (1 : Int32) → ¬ (4 : Int32) < (f_getTaskCount F1) → (en_L_runSum  F1 A1 (f_getTaskCount F1)).isSome = true) (s15 : ¬ ((sv v2) &&& (4 : Int32)) = 0 → 0 < (f_getFrame F1) → ¬ (f_getHyperperiod F1) < (1 : Int32) → ¬ (60 : Int32) < (f_getHyperperiod F1) → ¬ (f_getTaskCount F1) < (1 : Int32) → ¬ (4 : Int32) < (f_getTaskCount F1) → (en_L_cycleSum  F1 A1 (f_getTaskCount F1) (f_getHyperperiod F1)).isSome = true) (s16 : ¬ ((sv v2) &&& (4 : Int32)) = 0 → 0 < (f_getFrame F1) → ¬ (f_getHyperperiod F1) < (1 : Int32) → ¬ (60 : Int32) < (f_getHyperperiod F1) → ¬ (f_getTaskCount F1) < (1 : Int32) → ¬ (4 : Int32) < (f_getTaskCount F1) → (en_build F1 A1 ((f_getHyperperiod F1) + (1 : Int32))).isSome = true) (h18 : ¬ ((sv v2) &&& (4 : Int32)) = 0 → 0 < (f_getFrame F1) → ¬ (f_getHyperperiod F1) < (1 : Int32) → ¬ (60 : Int32) < (f_getHyperperiod F1) → ¬ (f_getTaskCount F1) < (1 : Int32) → ¬ (4 : Int32) < (f_getTaskCount F1) → (R_build F1 A1 ((f_getHyperperiod F1) + (1 : Int32))).1 = (-5 : Int32) → Wk l Z (MoL Z cdC "CyclicExecutiveL7" true) md_L_law 260 [.val (.ref 0), .val (.ref 1), .val (.int v2), .unset, .unset, .unset, .unset, .val (.int (f_getHyperperiod F1)), .val (.int (f_getTaskCount F1)), .val (.int (f_getFrame F1)), .val (.int (f_getNow F1)), .val (.int (f_getMiss F1)), .val (.long (R_L_tableSum  F1 A1 (f_getHyperperiod F1))), .second, .val (.long (R_L_runSum  F1 A1 (f_getTaskCount F1))), .second, .val (.long (R_L_cycleSum  F1 A1 (f_getTaskCount F1) (f_getHyperperiod F1))), .second, .unset] [] (sl, sv, [(7, (R_build F1 A1 ((f_getHyperperiod F1) + (1 : Int32))).2.1, G1, (R_build F1 A1 ((f_getHyperperiod F1) + (1 : Int32))).2.2, B1)]) 8 1328 Q) (h19 : ¬ ((sv v2) &&& (4 : Int32)) = 0 → 0 < (f_getFrame F1) → ¬ (f_getHyperperiod F1) < (1 : Int32) → ¬ (60 : Int32) < (f_getHyperperiod F1) → ¬ (f_getTaskCount F1) < (1 : Int32) → ¬ (4 : Int32) < (f_getTaskCount F1) → ¬ (R_build F1 A1 ((f_getHyperperiod F1) + (1 : Int32))).1 = (-5 : Int32) → Q (some (.int (0 : Int32))) (sl, sv, [(7, (R_build F1 A1 ((f_getHyperperiod F1) + (1 : Int32))).2.1, G1, (R_build F1 A1 ((f_getHyperperiod F1) + (1 : Int32))).2.2, B1)])) (h20 : ¬ ((sv v2) &&& (4 : Int32)) = 0 → 0 < (f_getFrame F1) → ¬ (f_getHyperperiod F1) < (1 : Int32) → ¬ (60 : Int32) < (f_getHyperperiod F1) → ¬ (f_getTaskCount F1) < (1 : Int32) → (4 : Int32) < (f_getTaskCount F1) → Q (some (.int (0 : Int32))) (sl, sv, [(7, F1, G1, A1, B1)])) (h21 : ¬ ((sv v2) &&& (4 : Int32)) = 0 → ¬ 0 < (f_getFrame F1) → Wk l Z (MoL Z cdC "CyclicExecutiveL7" true) md_L_law 13 [.val (.ref 0), .val (.ref 1), .val (.int (v2 + (4 : Int32))), .unset, .unset, .unset, .unset, .unset, .unset, .unset, .unset, .unset, .unset, .unset, .unset, .unset, .unset, .unset, .unset] [] (sl, sv, [(7, F1, G1, A1, B1)]) 8 1328 Q) :
    Wk l Z (MoL Z cdC "CyclicExecutiveL7" true) md_L_law 140 [.val (.ref 0), .val (.ref 1), .val (.int v2), .unset, .unset, .unset, .unset, .unset, .unset, .unset, .unset, .unset, .unset, .unset, .unset, .unset, .unset, .unset, .unset] [] (sl, sv, [(7, F1, G1, A1, B1)]) 8 1328 Q := by
  refine Wk.aloadN o_L_law_140 rfl ?_
  refine Wk.iloadN o_L_law_141 rfl ?_
  refine Wk.ialoadL s1 s2 o_L_law_142 ?_
  refine Wk.iconst o_L_law_143 (z := (4 : Int32)) (by decide) ?_
  refine Wk.iand o_L_law_144 ?_
  refine Wk.if_eq o_L_law_145 (fun q3 => ?_) (fun q3 => ?_)
  · refine Wk.iinc o_L_law_377 rfl (z := (v2 + (4 : Int32))) rfl (L' := [.val (.ref 0), .val (.ref 1), .val (.int (v2 + (4 : Int32))), .unset, .unset, .unset, .unset, .unset, .unset, .unset, .unset, .unset, .unset, .unset, .unset, .unset, .unset, .unset, .unset]) rfl ?_
    refine Wk.goto o_L_law_380 ?_
    exact (h4 q3)
  · refine Wk.aloadN o_L_law_148 rfl ?_
    refine Wk.callLF (coC H) [] 0 [] (i' := 1) (H.w 97 rfl) (cv_getFrame H) o_L_law_149 (run_getFrame H F1 G1 A1 B1) (wt := 0) (cu' := 8) (su' := 1328) (by decide) trivial rfl rfl rfl rfl rfl rfl rfl rfl rfl rfl (ws' := [(7, F1, G1, A1, B1)]) rfl ?_
    refine Wk.if_gt o_L_law_152 (fun q5 => ?_) (fun q5 => ?_)
    · refine Wk.aloadN o_L_law_158 rfl ?_
      refine Wk.callLF (coC H) [] 0 [] (i' := 1) (H.w 102 rfl) (cv_getHyperperiod H) o_L_law_159 (run_getHyperperiod H F1 G1 A1 B1) (wt := 0) (cu' := 8) (su' := 1328) (by decide) trivial rfl rfl rfl rfl rfl rfl rfl rfl rfl rfl (ws' := [(7, F1, G1, A1, B1)]) rfl ?_
      refine Wk.istore o_L_law_162 (Or.inl rfl) (L' := [.val (.ref 0), .val (.ref 1), .val (.int v2), .unset, .unset, .unset, .unset, .val (.int (f_getHyperperiod F1)), .unset, .unset, .unset, .unset, .unset, .unset, .unset, .unset, .unset, .unset, .unset]) rfl ?_
      refine Wk.aloadN o_L_law_164 rfl ?_
      refine Wk.callLF (coC H) [] 0 [] (i' := 1) (H.w 107 rfl) (cv_getTaskCount H) o_L_law_165 (run_getTaskCount H F1 G1 A1 B1) (wt := 0) (cu' := 8) (su' := 1328) (by decide) trivial rfl rfl rfl rfl rfl rfl rfl rfl rfl rfl (ws' := [(7, F1, G1, A1, B1)]) rfl ?_
      refine Wk.istore o_L_law_168 (Or.inl rfl) (L' := [.val (.ref 0), .val (.ref 1), .val (.int v2), .unset, .unset, .unset, .unset, .val (.int (f_getHyperperiod F1)), .val (.int (f_getTaskCount F1)), .unset, .unset, .unset, .unset, .unset, .unset, .unset, .unset, .unset, .unset]) rfl ?_
      refine Wk.aloadN o_L_law_170 rfl ?_
      refine Wk.callLF (coC H) [] 0 [] (i' := 1) (H.w 97 rfl) (cv_getFrame H) o_L_law_171 (run_getFrame H F1 G1 A1 B1) (wt := 0) (cu' := 8) (su' := 1328) (by decide) trivial rfl rfl rfl rfl rfl rfl rfl rfl rfl rfl (ws' := [(7, F1, G1, A1, B1)]) rfl ?_
      refine Wk.istore o_L_law_174 (Or.inl rfl) (L' := [.val (.ref 0), .val (.ref 1), .val (.int v2), .unset, .unset, .unset, .unset, .val (.int (f_getHyperperiod F1)), .val (.int (f_getTaskCount F1)), .val (.int (f_getFrame F1)), .unset, .unset, .unset, .unset, .unset, .unset, .unset, .unset, .unset]) rfl ?_
      refine Wk.aloadN o_L_law_176 rfl ?_
      refine Wk.callLF (coC H) [] 0 [] (i' := 1) (H.w 112 rfl) (cv_getNow H) o_L_law_177 (run_getNow H F1 G1 A1 B1) (wt := 0) (cu' := 8) (su' := 1328) (by decide) trivial rfl rfl rfl rfl rfl rfl rfl rfl rfl rfl (ws' := [(7, F1, G1, A1, B1)]) rfl ?_
      refine Wk.istore o_L_law_180 (Or.inl rfl) (L' := [.val (.ref 0), .val (.ref 1), .val (.int v2), .unset, .unset, .unset, .unset, .val (.int (f_getHyperperiod F1)), .val (.int (f_getTaskCount F1)), .val (.int (f_getFrame F1)), .val (.int (f_getNow F1)), .unset, .unset, .unset, .unset, .unset, .unset, .unset, .unset]) rfl ?_
      refine Wk.aloadN o_L_law_182 rfl ?_
      refine Wk.callLF (coC H) [] 0 [] (i' := 1) (H.w 117 rfl) (cv_getMiss H) o_L_law_183 (run_getMiss H F1 G1 A1 B1) (wt := 0) (cu' := 8) (su' := 1328) (by decide) trivial rfl rfl rfl rfl rfl rfl rfl rfl rfl rfl (ws' := [(7, F1, G1, A1, B1)]) rfl ?_
      refine Wk.istore o_L_law_186 (Or.inl rfl) (L' := [.val (.ref 0), .val (.ref 1), .val (.int v2), .unset, .unset, .unset, .unset, .val (.int (f_getHyperperiod F1)), .val (.int (f_getTaskCount F1)), .val (.int (f_getFrame F1)), .val (.int (f_getNow F1)), .val (.int (f_getMiss F1)), .unset, .unset, .unset, .unset, .unset, .unset, .unset]) rfl ?_
      refine Wk.iload o_L_law_188 rfl ?_
      refine Wk.iconst o_L_law_190 (z := (1 : Int32)) (by decide) ?_
      refine Wk.icmp_lt o_L_law_191 (fun q6 => ?_) (fun q6 => ?_)
      · refine Wk.iconst o_L_law_213 (z := (0 : Int32)) (by decide) ?_
        exact Wk.zreturn mrL rfl o_L_law_214 rfl (by decide) (by decide) (y := (0 : Int32)) (by decide) (h7 q3 q5 q6)
      · refine Wk.iload o_L_law_194 rfl ?_
        refine Wk.bipush o_L_law_196 (z := (60 : Int32)) (by decide) ?_
        refine Wk.icmp_gt o_L_law_198 (fun q8 => ?_) (fun q8 => ?_)
        · refine Wk.iconst o_L_law_213 (z := (0 : Int32)) (by decide) ?_
          exact Wk.zreturn mrL rfl o_L_law_214 rfl (by decide) (by decide) (y := (0 : Int32)) (by decide) (h9 q3 q5 q6 q8)
        · refine Wk.iload o_L_law_201 rfl ?_
          refine Wk.iconst o_L_law_203 (z := (1 : Int32)) (by decide) ?_
          refine Wk.icmp_lt o_L_law_204 (fun q10 => ?_) (fun q10 => ?_)
          · refine Wk.iconst o_L_law_213 (z := (0 : Int32)) (by decide) ?_
            exact Wk.zreturn mrL rfl o_L_law_214 rfl (by decide) (by decide) (y := (0 : Int32)) (by decide) (h11 q3 q5 q6 q8 q10)
          · refine Wk.iload o_L_law_207 rfl ?_
            refine Wk.iconst o_L_law_209 (z := (4 : Int32)) (by decide) ?_
            refine Wk.icmp_le o_L_law_210 (fun q12 => ?_) (fun q12 => ?_)
            · refine Wk.aloadN o_L_law_215 rfl ?_
              refine Wk.iload o_L_law_216 rfl ?_
              refine Wk.callSF mtL [.ref 1, .int (f_getHyperperiod F1)] [] (H.w 122 rfl) (cv_L_tableSum H) o_L_law_218 (run_L_tableSum H sl sv F1 G1 A1 B1 (f_getHyperperiod F1) (s13 q3 q5 q6 q8 q10 q12)) (wt := 0) (cu' := 8) (su' := 1328) (by decide) rfl rfl rfl rfl rfl rfl ?_
              refine Wk.lstore o_L_law_221 (Or.inl rfl) (Or.inl rfl) (L' := [.val (.ref 0), .val (.ref 1), .val (.int v2), .unset, .unset, .unset, .unset, .val (.int (f_getHyperperiod F1)), .val (.int (f_getTaskCount F1)), .val (.int (f_getFrame F1)), .val (.int (f_getNow F1)), .val (.int (f_getMiss F1)), .val (.long (R_L_tableSum  F1 A1 (f_getHyperperiod F1))), .second, .unset, .unset, .unset, .unset, .unset]) rfl ?_
              refine Wk.aloadN o_L_law_223 rfl ?_
              refine Wk.iload o_L_law_224 rfl ?_
              refine Wk.callSF mtL [.ref 1, .int (f_getTaskCount F1)] [] (H.w 142 rfl) (cv_L_runSum H) o_L_law_226 (run_L_runSum H sl sv F1 G1 A1 B1 (f_getTaskCount F1) (s14 q3 q5 q6 q8 q10 q12)) (wt := 0) (cu' := 8) (su' := 1328) (by decide) rfl rfl rfl rfl rfl rfl ?_
              refine Wk.lstore o_L_law_229 (Or.inl rfl) (Or.inl rfl) (L' := [.val (.ref 0), .val (.ref 1), .val (.int v2), .unset, .unset, .unset, .unset, .val (.int (f_getHyperperiod F1)), .val (.int (f_getTaskCount F1)), .val (.int (f_getFrame F1)), .val (.int (f_getNow F1)), .val (.int (f_getMiss F1)), .val (.long (R_L_tableSum  F1 A1 (f_getHyperperiod F1))), .second, .val (.long (R_L_runSum  F1 A1 (f_getTaskCount F1))), .second, .unset, .unset, .unset]) rfl ?_
              refine Wk.aloadN o_L_law_231 rfl ?_
              refine Wk.iload o_L_law_232 rfl ?_
              refine Wk.iload o_L_law_234 rfl ?_
              refine Wk.callSF mtL [.ref 1, .int (f_getTaskCount F1), .int (f_getHyperperiod F1)] [] (H.w 150 rfl) (cv_L_cycleSum H) o_L_law_236 (run_L_cycleSum H sl sv F1 G1 A1 B1 (f_getTaskCount F1) (f_getHyperperiod F1) (s15 q3 q5 q6 q8 q10 q12)) (wt := 0) (cu' := 8) (su' := 1328) (by decide) rfl rfl rfl rfl rfl rfl ?_
              refine Wk.lstore o_L_law_239 (Or.inl rfl) (Or.inl rfl) (L' := [.val (.ref 0), .val (.ref 1), .val (.int v2), .unset, .unset, .unset, .unset, .val (.int (f_getHyperperiod F1)), .val (.int (f_getTaskCount F1)), .val (.int (f_getFrame F1)), .val (.int (f_getNow F1)), .val (.int (f_getMiss F1)), .val (.long (R_L_tableSum  F1 A1 (f_getHyperperiod F1))), .second, .val (.long (R_L_runSum  F1 A1 (f_getTaskCount F1))), .second, .val (.long (R_L_cycleSum  F1 A1 (f_getTaskCount F1) (f_getHyperperiod F1))), .second, .unset]) rfl ?_
              refine Wk.iload o_L_law_241 rfl ?_
              refine Wk.iconst o_L_law_243 (z := (1 : Int32)) (by decide) ?_
              refine Wk.iadd o_L_law_244 ?_
              refine Wk.istore o_L_law_245 (Or.inl rfl) (L' := [.val (.ref 0), .val (.ref 1), .val (.int v2), .unset, .unset, .unset, .unset, .val (.int (f_getHyperperiod F1)), .val (.int (f_getTaskCount F1)), .val (.int (f_getFrame F1)), .val (.int (f_getNow F1)), .val (.int (f_getMiss F1)), .val (.long (R_L_tableSum  F1 A1 (f_getHyperperiod F1))), .second, .val (.long (R_L_runSum  F1 A1 (f_getTaskCount F1))), .second, .val (.long (R_L_cycleSum  F1 A1 (f_getTaskCount F1) (f_getHyperperiod F1))), .second, .val (.int ((f_getHyperperiod F1) + (1 : Int32)))]) rfl ?_
              refine Wk.aloadN o_L_law_247 rfl ?_
              refine Wk.iload o_L_law_248 rfl ?_
              refine Wk.callLF (coC H) [.int ((f_getHyperperiod F1) + (1 : Int32))] 0 [] (i' := 1) (H.w 68 rfl) (cv_build H) o_L_law_250 (run_build H F1 G1 A1 B1 ((f_getHyperperiod F1) + (1 : Int32)) (s16 q3 q5 q6 q8 q10 q12)) (wt := 0) (cu' := 8) (su' := 1328) (by decide) trivial rfl rfl rfl rfl rfl rfl rfl rfl rfl rfl (ws' := [(7, (R_build F1 A1 ((f_getHyperperiod F1) + (1 : Int32))).2.1, G1, (R_build F1 A1 ((f_getHyperperiod F1) + (1 : Int32))).2.2, B1)]) rfl ?_
              refine Wk.bipush o_L_law_253 (z := (-5 : Int32)) (by decide) ?_
              refine Wk.icmp_eq o_L_law_255 (fun q17 => ?_) (fun q17 => ?_)
              · refine Wk.forget [false, false, false, false, false, false, false, false, false, false, false, false, false, false, false, false, false, false, true] (L' := [.val (.ref 0), .val (.ref 1), .val (.int v2), .unset, .unset, .unset, .unset, .val (.int (f_getHyperperiod F1)), .val (.int (f_getTaskCount F1)), .val (.int (f_getFrame F1)), .val (.int (f_getNow F1)), .val (.int (f_getMiss F1)), .val (.long (R_L_tableSum  F1 A1 (f_getHyperperiod F1))), .second, .val (.long (R_L_runSum  F1 A1 (f_getTaskCount F1))), .second, .val (.long (R_L_cycleSum  F1 A1 (f_getTaskCount F1) (f_getHyperperiod F1))), .second, .unset]) rfl rfl ?_
                exact (h18 q3 q5 q6 q8 q10 q12 q17)
              · refine Wk.iconst o_L_law_258 (z := (0 : Int32)) (by decide) ?_
                exact Wk.zreturn mrL rfl o_L_law_259 rfl (by decide) (by decide) (y := (0 : Int32)) (by decide) (h19 q3 q5 q6 q8 q10 q12 q17)
            · refine Wk.iconst o_L_law_213 (z := (0 : Int32)) (by decide) ?_
              exact Wk.zreturn mrL rfl o_L_law_214 rfl (by decide) (by decide) (y := (0 : Int32)) (by decide) (h20 q3 q5 q6 q8 q10 q12)
    · refine Wk.goto o_L_law_155 ?_
      refine Wk.iinc o_L_law_377 rfl (z := (v2 + (4 : Int32))) rfl (L' := [.val (.ref 0), .val (.ref 1), .val (.int (v2 + (4 : Int32))), .unset, .unset, .unset, .unset, .unset, .unset, .unset, .unset, .unset, .unset, .unset, .unset, .unset, .unset, .unset, .unset]) rfl ?_
      refine Wk.goto o_L_law_380 ?_
      exact (h21 q3 q5)

set_option maxRecDepth 65536 in
set_option maxHeartbeats 4000000 in
theorem wp_L_law_260 {l : Launch} {Z : State} {a0 : Array Value} (H : OK Z a0) (sl : Int32) (sv : Int32 → Int32) (F1 : Nat → Int32) (G1 : Nat → Int64) (A1 : Nat → Int32 → Int32) (B1 : Nat → Int32 → Int64) (v2 : Int32) (v7 : Int32) (v8 : Int32) (v9 : Int32) (v10 : Int32) (v11 : Int32) (w12 : Int64) (w14 : Int64) (w16 : Int64) {Q : Option Value → WL → Prop} (s1 : (en_addTask F1 A1 (0 : Int32) (1 : Int32) (1 : Int32)).isSome = true) (h3 : (R_addTask F1 A1 (0 : Int32) (1 : Int32) (1 : Int32)).1 = (-1 : Int32) → Wk l Z (MoL Z cdC "CyclicExecutiveL7" true) md_L_law 273 [.val (.ref 0), .val (.ref 1), .val (.int v2), .unset, .unset, .unset, .unset, .val (.int v7), .val (.int v8), .val (.int v9), .val (.int v10), .val (.int v11), .val (.long w12), .second, .val (.long w14), .second, .val (.long w16), .second, .unset] [] (sl, sv, [(7, (R_addTask F1 A1 (0 : Int32) (1 : Int32) (1 : Int32)).2.1, G1, (R_addTask F1 A1 (0 : Int32) (1 : Int32) (1 : Int32)).2.2, B1)]) 8 1328 Q) (h4 : ¬ (R_addTask F1 A1 (0 : Int32) (1 : Int32) (1 : Int32)).1 = (-1 : Int32) → Q (some (.int (0 : Int32))) (sl, sv, [(7, (R_addTask F1 A1 (0 : Int32) (1 : Int32) (1 : Int32)).2.1, G1, (R_addTask F1 A1 (0 : Int32) (1 : Int32) (1 : Int32)).2.2, B1)])) :
    Wk l Z (MoL Z cdC "CyclicExecutiveL7" true) md_L_law 260 [.val (.ref 0), .val (.ref 1), .val (.int v2), .unset, .unset, .unset, .unset, .val (.int v7), .val (.int v8), .val (.int v9), .val (.int v10), .val (.int v11), .val (.long w12), .second, .val (.long w14), .second, .val (.long w16), .second, .unset] [] (sl, sv, [(7, F1, G1, A1, B1)]) 8 1328 Q := by
  refine Wk.aloadN o_L_law_260 rfl ?_
  refine Wk.iconst o_L_law_261 (z := (0 : Int32)) (by decide) ?_
  refine Wk.iconst o_L_law_262 (z := (1 : Int32)) (by decide) ?_
  refine Wk.iconst o_L_law_263 (z := (1 : Int32)) (by decide) ?_
  refine Wk.callLF (coC H) [.int (0 : Int32), .int (1 : Int32), .int (1 : Int32)] 0 [] (i' := 1) (H.w 51 rfl) (cv_addTask H) o_L_law_264 (run_addTask H F1 G1 A1 B1 (0 : Int32) (1 : Int32) (1 : Int32) s1) (wt := 0) (cu' := 8) (su' := 1328) (by decide) trivial rfl rfl rfl rfl rfl rfl rfl rfl rfl rfl (ws' := [(7, (R_addTask F1 A1 (0 : Int32) (1 : Int32) (1 : Int32)).2.1, G1, (R_addTask F1 A1 (0 : Int32) (1 : Int32) (1 : Int32)).2.2, B1)]) rfl ?_
  refine Wk.iconst o_L_law_267 (z := (-1 : Int32)) (by decide) ?_
  refine Wk.icmp_eq o_L_law_268 (fun q2 => ?_) (fun q2 => ?_)
  · exact (h3 q2)
  · refine Wk.iconst o_L_law_271 (z := (0 : Int32)) (by decide) ?_
    exact Wk.zreturn mrL rfl o_L_law_272 rfl (by decide) (by decide) (y := (0 : Int32)) (by decide) (h4 q2)

set_option maxRecDepth 65536 in
set_option maxHeartbeats 4000000 in
theorem wp_L_law_273 {l : Launch} {Z : State} {a0 : Array Value} (H : OK Z a0) (sl : Int32) (sv : Int32 → Int32) (F1 : Nat → Int32) (G1 : Nat → Int64) (A1 : Nat → Int32 → Int32) (B1 : Nat → Int32 → Int64) (v2 : Int32) (v7 : Int32) (v8 : Int32) (v9 : Int32) (v10 : Int32) (v11 : Int32) (w12 : Int64) (w14 : Int64) (w16 : Int64) {Q : Option Value → WL → Prop} (s1 : (en_run F1 A1 (0 : Int32)).isSome = true) (h3 : (R_run F1 A1 (0 : Int32)).1 = 0 → Wk l Z (MoL Z cdC "CyclicExecutiveL7" true) md_L_law 283 [.val (.ref 0), .val (.ref 1), .val (.int v2), .unset, .unset, .unset, .unset, .val (.int v7), .val (.int v8), .val (.int v9), .val (.int v10), .val (.int v11), .val (.long w12), .second, .val (.long w14), .second, .val (.long w16), .second, .unset] [] (sl, sv, [(7, (R_run F1 A1 (0 : Int32)).2.1, G1, (R_run F1 A1 (0 : Int32)).2.2, B1)]) 8 1328 Q) (h4 : ¬ (R_run F1 A1 (0 : Int32)).1 = 0 → Q (some (.int (0 : Int32))) (sl, sv, [(7, (R_run F1 A1 (0 : Int32)).2.1, G1, (R_run F1 A1 (0 : Int32)).2.2, B1)])) :
    Wk l Z (MoL Z cdC "CyclicExecutiveL7" true) md_L_law 273 [.val (.ref 0), .val (.ref 1), .val (.int v2), .unset, .unset, .unset, .unset, .val (.int v7), .val (.int v8), .val (.int v9), .val (.int v10), .val (.int v11), .val (.long w12), .second, .val (.long w14), .second, .val (.long w16), .second, .unset] [] (sl, sv, [(7, F1, G1, A1, B1)]) 8 1328 Q := by
  refine Wk.aloadN o_L_law_273 rfl ?_
  refine Wk.iconst o_L_law_274 (z := (0 : Int32)) (by decide) ?_
  refine Wk.callLF (coC H) [.int (0 : Int32)] 0 [] (i' := 1) (H.w 46 rfl) (cv_run H) o_L_law_275 (run_run H F1 G1 A1 B1 (0 : Int32) s1) (wt := 0) (cu' := 8) (su' := 1328) (by decide) trivial rfl rfl rfl rfl rfl rfl rfl rfl rfl rfl (ws' := [(7, (R_run F1 A1 (0 : Int32)).2.1, G1, (R_run F1 A1 (0 : Int32)).2.2, B1)]) rfl ?_
  refine Wk.if_eq o_L_law_278 (fun q2 => ?_) (fun q2 => ?_)
  · exact (h3 q2)
  · refine Wk.iconst o_L_law_281 (z := (0 : Int32)) (by decide) ?_
    exact Wk.zreturn mrL rfl o_L_law_282 rfl (by decide) (by decide) (y := (0 : Int32)) (by decide) (h4 q2)

set_option maxRecDepth 65536 in
set_option maxHeartbeats 4000000 in
theorem wp_L_law_283 {l : Launch} {Z : State} {a0 : Array Value} (H : OK Z a0) (sl : Int32) (sv : Int32 → Int32) (F1 : Nat → Int32) (G1 : Nat → Int64) (A1 : Nat → Int32 → Int32) (B1 : Nat → Int32 → Int64) (v2 : Int32) (v7 : Int32) (v8 : Int32) (v9 : Int32) (v10 : Int32) (v11 : Int32) (w12 : Int64) (w14 : Int64) (w16 : Int64) {Q : Option Value → WL → Prop} (s1 : (en_run F1 A1 v7).isSome = true) (h3 : (R_run F1 A1 v7).1 = v7 → Wk l Z (MoL Z cdC "CyclicExecutiveL7" true) md_L_law 296 [.val (.ref 0), .val (.ref 1), .val (.int v2), .unset, .unset, .unset, .unset, .val (.int v7), .val (.int v8), .val (.int v9), .val (.int v10), .val (.int v11), .val (.long w12), .second, .val (.long w14), .second, .val (.long w16), .second, .unset] [] (sl, sv, [(7, (R_run F1 A1 v7).2.1, G1, (R_run F1 A1 v7).2.2, B1)]) 8 1328 Q) (h4 : ¬ (R_run F1 A1 v7).1 = v7 → Q (some (.int (0 : Int32))) (sl, sv, [(7, (R_run F1 A1 v7).2.1, G1, (R_run F1 A1 v7).2.2, B1)])) :
    Wk l Z (MoL Z cdC "CyclicExecutiveL7" true) md_L_law 283 [.val (.ref 0), .val (.ref 1), .val (.int v2), .unset, .unset, .unset, .unset, .val (.int v7), .val (.int v8), .val (.int v9), .val (.int v10), .val (.int v11), .val (.long w12), .second, .val (.long w14), .second, .val (.long w16), .second, .unset] [] (sl, sv, [(7, F1, G1, A1, B1)]) 8 1328 Q := by
  refine Wk.aloadN o_L_law_283 rfl ?_
  refine Wk.iload o_L_law_284 rfl ?_
  refine Wk.callLF (coC H) [.int v7] 0 [] (i' := 1) (H.w 46 rfl) (cv_run H) o_L_law_286 (run_run H F1 G1 A1 B1 v7 s1) (wt := 0) (cu' := 8) (su' := 1328) (by decide) trivial rfl rfl rfl rfl rfl rfl rfl rfl rfl rfl (ws' := [(7, (R_run F1 A1 v7).2.1, G1, (R_run F1 A1 v7).2.2, B1)]) rfl ?_
  refine Wk.iload o_L_law_289 rfl ?_
  refine Wk.icmp_eq o_L_law_291 (fun q2 => ?_) (fun q2 => ?_)
  · exact (h3 q2)
  · refine Wk.iconst o_L_law_294 (z := (0 : Int32)) (by decide) ?_
    exact Wk.zreturn mrL rfl o_L_law_295 rfl (by decide) (by decide) (y := (0 : Int32)) (by decide) (h4 q2)

set_option maxRecDepth 65536 in
set_option maxHeartbeats 4000000 in
theorem wp_L_law_296 {l : Launch} {Z : State} {a0 : Array Value} (H : OK Z a0) (sl : Int32) (sv : Int32 → Int32) (F1 : Nat → Int32) (G1 : Nat → Int64) (A1 : Nat → Int32 → Int32) (B1 : Nat → Int32 → Int64) (v2 : Int32) (v7 : Int32) (v8 : Int32) (v9 : Int32) (v10 : Int32) (v11 : Int32) (w12 : Int64) (w14 : Int64) (w16 : Int64) {Q : Option Value → WL → Prop} (h2 : ¬ (f_getFrame F1) = v9 → Q (some (.int (0 : Int32))) (sl, sv, [(7, F1, G1, A1, B1)])) (h4 : (f_getFrame F1) = v9 → ¬ (f_getHyperperiod F1) = v7 → Q (some (.int (0 : Int32))) (sl, sv, [(7, F1, G1, A1, B1)])) (h6 : (f_getFrame F1) = v9 → (f_getHyperperiod F1) = v7 → ¬ (f_getTaskCount F1) = v8 → Q (some (.int (0 : Int32))) (sl, sv, [(7, F1, G1, A1, B1)])) (h9 : (f_getFrame F1) = v9 → (f_getHyperperiod F1) = v7 → (f_getTaskCount F1) = v8 → (f_getMiss F1) = v11 → ¬ (f_getNow F1) = (v10 + v7) → Q (some (.int (0 : Int32))) (sl, sv, [(7, F1, G1, A1, B1)])) (s10 : (f_getFrame F1) = v9 → (f_getHyperperiod F1) = v7 → (f_getTaskCount F1) = v8 → (f_getMiss F1) = v11 → (f_getNow F1) = (v10 + v7) → (en_L_tableSum  F1 A1 v7).isSome = true) (s12 : (f_getFrame F1) = v9 → (f_getHyperperiod F1) = v7 → (f_getTaskCount F1) = v8 → (f_getMiss F1) = v11 → (f_getNow F1) = (v10 + v7) → (XT.cmpL (R_L_tableSum  F1 A1 v7) w12) = 0 → (en_L_runSum  F1 A1 v8).isSome = true) (h14 : (f_getFrame F1) = v9 → (f_getHyperperiod F1) = v7 → (f_getTaskCount F1) = v8 → (f_getMiss F1) = v11 → (f_getNow F1) = (v10 + v7) → (XT.cmpL (R_L_tableSum  F1 A1 v7) w12) = 0 → (XT.cmpL (R_L_runSum  F1 A1 v8) (w14 + w16)) = 0 → Wk l Z (MoL Z cdC "CyclicExecutiveL7" true) md_L_law 13 [.val (.ref 0), .val (.ref 1), .val (.int (v2 + (4 : Int32))), .unset, .unset, .unset, .unset, .unset, .unset, .unset, .unset, .unset, .unset, .unset, .unset, .unset, .unset, .unset, .unset] [] (sl, sv, [(7, F1, G1, A1, B1)]) 8 1328 Q) (h15 : (f_getFrame F1) = v9 → (f_getHyperperiod F1) = v7 → (f_getTaskCount F1) = v8 → (f_getMiss F1) = v11 → (f_getNow F1) = (v10 + v7) → (XT.cmpL (R_L_tableSum  F1 A1 v7) w12) = 0 → ¬ (XT.cmpL (R_L_runSum  F1 A1 v8) (w14 + w16)) = 0 → Q (some (.int (0 : Int32))) (sl, sv, [(7, F1, G1, A1, B1)])) (h16 : (f_getFrame F1) = v9 → (f_getHyperperiod F1) = v7 → (f_getTaskCount F1) = v8 → (f_getMiss F1) = v11 → (f_getNow F1) = (v10 + v7) → ¬ (XT.cmpL (R_L_tableSum  F1 A1 v7) w12) = 0 → Q (some (.int (0 : Int32))) (sl, sv, [(7, F1, G1, A1, B1)])) (h17 : (f_getFrame F1) = v9 → (f_getHyperperiod F1) = v7 → (f_getTaskCount F1) = v8 → ¬ (f_getMiss F1) = v11 → Q (some (.int (0 : Int32))) (sl, sv, [(7, F1, G1, A1, B1)])) :
    Wk l Z (MoL Z cdC "CyclicExecutiveL7" true) md_L_law 296 [.val (.ref 0), .val (.ref 1), .val (.int v2), .unset, .unset, .unset, .unset, .val (.int v7), .val (.int v8), .val (.int v9), .val (.int v10), .val (.int v11), .val (.long w12), .second, .val (.long w14), .second, .val (.long w16), .second, .unset] [] (sl, sv, [(7, F1, G1, A1, B1)]) 8 1328 Q := by
  refine Wk.aloadN o_L_law_296 rfl ?_
  refine Wk.callLF (coC H) [] 0 [] (i' := 1) (H.w 97 rfl) (cv_getFrame H) o_L_law_297 (run_getFrame H F1 G1 A1 B1) (wt := 0) (cu' := 8) (su' := 1328) (by decide) trivial rfl rfl rfl rfl rfl rfl rfl rfl rfl rfl (ws' := [(7, F1, G1, A1, B1)]) rfl ?_
  refine Wk.iload o_L_law_300 rfl ?_
  refine Wk.icmp_ne o_L_law_302 (fun q1 => ?_) (fun q1 => ?_)
  · refine Wk.iconst o_L_law_332 (z := (0 : Int32)) (by decide) ?_
    exact Wk.zreturn mrL rfl o_L_law_333 rfl (by decide) (by decide) (y := (0 : Int32)) (by decide) (h2 q1)
  · refine Wk.aloadN o_L_law_305 rfl ?_
    refine Wk.callLF (coC H) [] 0 [] (i' := 1) (H.w 102 rfl) (cv_getHyperperiod H) o_L_law_306 (run_getHyperperiod H F1 G1 A1 B1) (wt := 0) (cu' := 8) (su' := 1328) (by decide) trivial rfl rfl rfl rfl rfl rfl rfl rfl rfl rfl (ws' := [(7, F1, G1, A1, B1)]) rfl ?_
    refine Wk.iload o_L_law_309 rfl ?_
    refine Wk.icmp_ne o_L_law_311 (fun q3 => ?_) (fun q3 => ?_)
    · refine Wk.iconst o_L_law_332 (z := (0 : Int32)) (by decide) ?_
      exact Wk.zreturn mrL rfl o_L_law_333 rfl (by decide) (by decide) (y := (0 : Int32)) (by decide) (h4 q1 q3)
    · refine Wk.aloadN o_L_law_314 rfl ?_
      refine Wk.callLF (coC H) [] 0 [] (i' := 1) (H.w 107 rfl) (cv_getTaskCount H) o_L_law_315 (run_getTaskCount H F1 G1 A1 B1) (wt := 0) (cu' := 8) (su' := 1328) (by decide) trivial rfl rfl rfl rfl rfl rfl rfl rfl rfl rfl (ws' := [(7, F1, G1, A1, B1)]) rfl ?_
      refine Wk.iload o_L_law_318 rfl ?_
      refine Wk.icmp_ne o_L_law_320 (fun q5 => ?_) (fun q5 => ?_)
      · refine Wk.iconst o_L_law_332 (z := (0 : Int32)) (by decide) ?_
        exact Wk.zreturn mrL rfl o_L_law_333 rfl (by decide) (by decide) (y := (0 : Int32)) (by decide) (h6 q1 q3 q5)
      · refine Wk.aloadN o_L_law_323 rfl ?_
        refine Wk.callLF (coC H) [] 0 [] (i' := 1) (H.w 117 rfl) (cv_getMiss H) o_L_law_324 (run_getMiss H F1 G1 A1 B1) (wt := 0) (cu' := 8) (su' := 1328) (by decide) trivial rfl rfl rfl rfl rfl rfl rfl rfl rfl rfl (ws' := [(7, F1, G1, A1, B1)]) rfl ?_
        refine Wk.iload o_L_law_327 rfl ?_
        refine Wk.icmp_eq o_L_law_329 (fun q7 => ?_) (fun q7 => ?_)
        · refine Wk.aloadN o_L_law_334 rfl ?_
          refine Wk.callLF (coC H) [] 0 [] (i' := 1) (H.w 112 rfl) (cv_getNow H) o_L_law_335 (run_getNow H F1 G1 A1 B1) (wt := 0) (cu' := 8) (su' := 1328) (by decide) trivial rfl rfl rfl rfl rfl rfl rfl rfl rfl rfl (ws' := [(7, F1, G1, A1, B1)]) rfl ?_
          refine Wk.iload o_L_law_338 rfl ?_
          refine Wk.iload o_L_law_340 rfl ?_
          refine Wk.iadd o_L_law_342 ?_
          refine Wk.icmp_ne o_L_law_343 (fun q8 => ?_) (fun q8 => ?_)
          · refine Wk.iconst o_L_law_358 (z := (0 : Int32)) (by decide) ?_
            exact Wk.zreturn mrL rfl o_L_law_359 rfl (by decide) (by decide) (y := (0 : Int32)) (by decide) (h9 q1 q3 q5 q7 q8)
          · refine Wk.aloadN o_L_law_346 rfl ?_
            refine Wk.iload o_L_law_347 rfl ?_
            refine Wk.callSF mtL [.ref 1, .int v7] [] (H.w 122 rfl) (cv_L_tableSum H) o_L_law_349 (run_L_tableSum H sl sv F1 G1 A1 B1 v7 (s10 q1 q3 q5 q7 q8)) (wt := 0) (cu' := 8) (su' := 1328) (by decide) rfl rfl rfl rfl rfl rfl ?_
            refine Wk.lload o_L_law_352 rfl ?_
            refine Wk.lcmp o_L_law_354 ?_
            refine Wk.if_eq o_L_law_355 (fun q11 => ?_) (fun q11 => ?_)
            · refine Wk.aloadN o_L_law_360 rfl ?_
              refine Wk.iload o_L_law_361 rfl ?_
              refine Wk.callSF mtL [.ref 1, .int v8] [] (H.w 142 rfl) (cv_L_runSum H) o_L_law_363 (run_L_runSum H sl sv F1 G1 A1 B1 v8 (s12 q1 q3 q5 q7 q8 q11)) (wt := 0) (cu' := 8) (su' := 1328) (by decide) rfl rfl rfl rfl rfl rfl ?_
              refine Wk.lload o_L_law_366 rfl ?_
              refine Wk.lload o_L_law_368 rfl ?_
              refine Wk.ladd o_L_law_370 ?_
              refine Wk.lcmp o_L_law_371 ?_
              refine Wk.if_eq o_L_law_372 (fun q13 => ?_) (fun q13 => ?_)
              · refine Wk.iinc o_L_law_377 rfl (z := (v2 + (4 : Int32))) rfl (L' := [.val (.ref 0), .val (.ref 1), .val (.int (v2 + (4 : Int32))), .unset, .unset, .unset, .unset, .val (.int v7), .val (.int v8), .val (.int v9), .val (.int v10), .val (.int v11), .val (.long w12), .second, .val (.long w14), .second, .val (.long w16), .second, .unset]) rfl ?_
                refine Wk.goto o_L_law_380 ?_
                refine Wk.forget [false, false, false, false, false, false, false, true, true, true, true, true, true, true, true, true, true, true, false] (L' := [.val (.ref 0), .val (.ref 1), .val (.int (v2 + (4 : Int32))), .unset, .unset, .unset, .unset, .unset, .unset, .unset, .unset, .unset, .unset, .unset, .unset, .unset, .unset, .unset, .unset]) rfl rfl ?_
                exact (h14 q1 q3 q5 q7 q8 q11 q13)
              · refine Wk.iconst o_L_law_375 (z := (0 : Int32)) (by decide) ?_
                exact Wk.zreturn mrL rfl o_L_law_376 rfl (by decide) (by decide) (y := (0 : Int32)) (by decide) (h15 q1 q3 q5 q7 q8 q11 q13)
            · refine Wk.iconst o_L_law_358 (z := (0 : Int32)) (by decide) ?_
              exact Wk.zreturn mrL rfl o_L_law_359 rfl (by decide) (by decide) (y := (0 : Int32)) (by decide) (h16 q1 q3 q5 q7 q8 q11)
        · refine Wk.iconst o_L_law_332 (z := (0 : Int32)) (by decide) ?_
          exact Wk.zreturn mrL rfl o_L_law_333 rfl (by decide) (by decide) (y := (0 : Int32)) (by decide) (h17 q1 q3 q5 q7)

theorem rt_law {v r : Int32} (e : v = r) : some (Value.int v) = some (Value.int r) := by rw [e]
def lp_L_law : Nat → Nat → (Int32) → (Int32 → Int32) → Int32 → Int32 → Int32 → Int32 → Int32 → Int32 → Int64 → Int64 → Int64 → (Nat → Int32) → (Nat → Int32 → Int32) → Option (Int32)
  | 0, _, _, _, _, _, _, _, _, _, _, _, _, _, _ => none
  | n + 1, tag, sl, sv, v2, v7, v8, v9, v10, v11, w12, w14, w16, F1, A1 => if tag = 11 then lp_L_law n 13 sl sv (0 : Int32) 0 0 0 0 0 0 0 0 F1 A1 else if tag = 13 then (if (v2 + (3 : Int32)) < sl then (if v2 < (400 : Int32) then (if (¬ v2 < 0) ∧ (v2 < sl) ∧ (¬ (v2 + (1 : Int32)) < 0) ∧ ((v2 + (1 : Int32)) < sl) ∧ (¬ (v2 + (2 : Int32)) < 0) ∧ ((v2 + (2 : Int32)) < sl) ∧ (¬ (v2 + (3 : Int32)) < 0) then (if (1 : Int32) < ((sv v2) &&& (3 : Int32)) then (if ((sv v2) &&& (3 : Int32)) = (2 : Int32) then (if ((en_build F1 A1 (((sv (v2 + (1 : Int32))) &&& (7 : Int32)) + (1 : Int32))).isSome = true) then lp_L_law n 140 sl sv v2 0 0 0 0 0 0 0 0 (R_build F1 A1 (((sv (v2 + (1 : Int32))) &&& (7 : Int32)) + (1 : Int32))).2.1 (R_build F1 A1 (((sv (v2 + (1 : Int32))) &&& (7 : Int32)) + (1 : Int32))).2.2 else none) else (if ((en_run F1 A1 (((sv (v2 + (1 : Int32))) &&& (63 : Int32)) - (2 : Int32))).isSome = true) then lp_L_law n 140 sl sv v2 0 0 0 0 0 0 0 0 (R_run F1 A1 (((sv (v2 + (1 : Int32))) &&& (63 : Int32)) - (2 : Int32))).2.1 (R_run F1 A1 (((sv (v2 + (1 : Int32))) &&& (63 : Int32)) - (2 : Int32))).2.2 else none)) else (if ((en_addTask F1 A1 (((sv (v2 + (1 : Int32))) &&& (7 : Int32)) + (1 : Int32)) (((sv (v2 + (2 : Int32))) &&& (3 : Int32)) + (1 : Int32)) ((((sv (v2 + (1 : Int32))) &&& (7 : Int32)) + (1 : Int32)) - ((sv (v2 + (3 : Int32))) &&& (1 : Int32)))).isSome = true) then lp_L_law n 140 sl sv v2 0 0 0 0 0 0 0 0 (R_addTask F1 A1 (((sv (v2 + (1 : Int32))) &&& (7 : Int32)) + (1 : Int32)) (((sv (v2 + (2 : Int32))) &&& (3 : Int32)) + (1 : Int32)) ((((sv (v2 + (1 : Int32))) &&& (7 : Int32)) + (1 : Int32)) - ((sv (v2 + (3 : Int32))) &&& (1 : Int32)))).2.1 (R_addTask F1 A1 (((sv (v2 + (1 : Int32))) &&& (7 : Int32)) + (1 : Int32)) (((sv (v2 + (2 : Int32))) &&& (3 : Int32)) + (1 : Int32)) ((((sv (v2 + (1 : Int32))) &&& (7 : Int32)) + (1 : Int32)) - ((sv (v2 + (3 : Int32))) &&& (1 : Int32)))).2.2 else none)) else none) else some ((1 : Int32))) else some ((1 : Int32))) else if tag = 140 then (if (¬ v2 < 0) ∧ (v2 < sl) then (if ((sv v2) &&& (4 : Int32)) = 0 then lp_L_law n 13 sl sv (v2 + (4 : Int32)) 0 0 0 0 0 0 0 0 F1 A1 else (if 0 < (f_getFrame F1) then (if (f_getHyperperiod F1) < (1 : Int32) then some ((0 : Int32)) else (if (60 : Int32) < (f_getHyperperiod F1) then some ((0 : Int32)) else (if (f_getTaskCount F1) < (1 : Int32) then some ((0 : Int32)) else (if (4 : Int32) < (f_getTaskCount F1) then some ((0 : Int32)) else (if ((en_L_tableSum  F1 A1 (f_getHyperperiod F1)).isSome = true) ∧ ((en_L_runSum  F1 A1 (f_getTaskCount F1)).isSome = true) ∧ ((en_L_cycleSum  F1 A1 (f_getTaskCount F1) (f_getHyperperiod F1)).isSome = true) ∧ ((en_build F1 A1 ((f_getHyperperiod F1) + (1 : Int32))).isSome = true) then (if (R_build F1 A1 ((f_getHyperperiod F1) + (1 : Int32))).1 = (-5 : Int32) then lp_L_law n 260 sl sv v2 (f_getHyperperiod F1) (f_getTaskCount F1) (f_getFrame F1) (f_getNow F1) (f_getMiss F1) (R_L_tableSum  F1 A1 (f_getHyperperiod F1)) (R_L_runSum  F1 A1 (f_getTaskCount F1)) (R_L_cycleSum  F1 A1 (f_getTaskCount F1) (f_getHyperperiod F1)) (R_build F1 A1 ((f_getHyperperiod F1) + (1 : Int32))).2.1 (R_build F1 A1 ((f_getHyperperiod F1) + (1 : Int32))).2.2 else some ((0 : Int32))) else none))))) else lp_L_law n 13 sl sv (v2 + (4 : Int32)) 0 0 0 0 0 0 0 0 F1 A1)) else none) else if tag = 260 then (if ((en_addTask F1 A1 (0 : Int32) (1 : Int32) (1 : Int32)).isSome = true) then (if (R_addTask F1 A1 (0 : Int32) (1 : Int32) (1 : Int32)).1 = (-1 : Int32) then lp_L_law n 273 sl sv v2 v7 v8 v9 v10 v11 w12 w14 w16 (R_addTask F1 A1 (0 : Int32) (1 : Int32) (1 : Int32)).2.1 (R_addTask F1 A1 (0 : Int32) (1 : Int32) (1 : Int32)).2.2 else some ((0 : Int32))) else none) else if tag = 273 then (if ((en_run F1 A1 (0 : Int32)).isSome = true) then (if (R_run F1 A1 (0 : Int32)).1 = 0 then lp_L_law n 283 sl sv v2 v7 v8 v9 v10 v11 w12 w14 w16 (R_run F1 A1 (0 : Int32)).2.1 (R_run F1 A1 (0 : Int32)).2.2 else some ((0 : Int32))) else none) else if tag = 283 then (if ((en_run F1 A1 v7).isSome = true) then (if (R_run F1 A1 v7).1 = v7 then lp_L_law n 296 sl sv v2 v7 v8 v9 v10 v11 w12 w14 w16 (R_run F1 A1 v7).2.1 (R_run F1 A1 v7).2.2 else some ((0 : Int32))) else none) else if tag = 296 then (if (f_getFrame F1) = v9 then (if (f_getHyperperiod F1) = v7 then (if (f_getTaskCount F1) = v8 then (if (f_getMiss F1) = v11 then (if (f_getNow F1) = (v10 + v7) then (if ((en_L_tableSum  F1 A1 v7).isSome = true) then (if (XT.cmpL (R_L_tableSum  F1 A1 v7) w12) = 0 then (if ((en_L_runSum  F1 A1 v8).isSome = true) then (if (XT.cmpL (R_L_runSum  F1 A1 v8) (w14 + w16)) = 0 then lp_L_law n 13 sl sv (v2 + (4 : Int32)) 0 0 0 0 0 0 0 0 F1 A1 else some ((0 : Int32))) else none) else some ((0 : Int32))) else none) else some ((0 : Int32))) else some ((0 : Int32))) else some ((0 : Int32))) else some ((0 : Int32))) else some ((0 : Int32))) else none
theorem lp_L_law_z (tag : Nat) (sl : Int32) (sv : Int32 → Int32) (v2 : Int32) (v7 : Int32) (v8 : Int32) (v9 : Int32) (v10 : Int32) (v11 : Int32) (w12 : Int64) (w14 : Int64) (w16 : Int64) (F1 : Nat → Int32) (A1 : Nat → Int32 → Int32) : lp_L_law 0 tag sl sv v2 v7 v8 v9 v10 v11 w12 w14 w16 F1 A1 = none := Eq.trans rfl rfl
theorem lp_L_law_11 (n : Nat) (sl : Int32) (sv : Int32 → Int32) (v2 : Int32) (v7 : Int32) (v8 : Int32) (v9 : Int32) (v10 : Int32) (v11 : Int32) (w12 : Int64) (w14 : Int64) (w16 : Int64) (F1 : Nat → Int32) (A1 : Nat → Int32 → Int32) : lp_L_law (n + 1) 11 sl sv v2 v7 v8 v9 v10 v11 w12 w14 w16 F1 A1 = lp_L_law n 13 sl sv (0 : Int32) 0 0 0 0 0 0 0 0 F1 A1 := by
  rw [lp_L_law, if_pos rfl]
theorem lp_L_law_13 (n : Nat) (sl : Int32) (sv : Int32 → Int32) (v2 : Int32) (v7 : Int32) (v8 : Int32) (v9 : Int32) (v10 : Int32) (v11 : Int32) (w12 : Int64) (w14 : Int64) (w16 : Int64) (F1 : Nat → Int32) (A1 : Nat → Int32 → Int32) : lp_L_law (n + 1) 13 sl sv v2 v7 v8 v9 v10 v11 w12 w14 w16 F1 A1 = (if (v2 + (3 : Int32)) < sl then (if v2 < (400 : Int32) then (if (¬ v2 < 0) ∧ (v2 < sl) ∧ (¬ (v2 + (1 : Int32)) < 0) ∧ ((v2 + (1 : Int32)) < sl) ∧ (¬ (v2 + (2 : Int32)) < 0) ∧ ((v2 + (2 : Int32)) < sl) ∧ (¬ (v2 + (3 : Int32)) < 0) then (if (1 : Int32) < ((sv v2) &&& (3 : Int32)) then (if ((sv v2) &&& (3 : Int32)) = (2 : Int32) then (if ((en_build F1 A1 (((sv (v2 + (1 : Int32))) &&& (7 : Int32)) + (1 : Int32))).isSome = true) then lp_L_law n 140 sl sv v2 0 0 0 0 0 0 0 0 (R_build F1 A1 (((sv (v2 + (1 : Int32))) &&& (7 : Int32)) + (1 : Int32))).2.1 (R_build F1 A1 (((sv (v2 + (1 : Int32))) &&& (7 : Int32)) + (1 : Int32))).2.2 else none) else (if ((en_run F1 A1 (((sv (v2 + (1 : Int32))) &&& (63 : Int32)) - (2 : Int32))).isSome = true) then lp_L_law n 140 sl sv v2 0 0 0 0 0 0 0 0 (R_run F1 A1 (((sv (v2 + (1 : Int32))) &&& (63 : Int32)) - (2 : Int32))).2.1 (R_run F1 A1 (((sv (v2 + (1 : Int32))) &&& (63 : Int32)) - (2 : Int32))).2.2 else none)) else (if ((en_addTask F1 A1 (((sv (v2 + (1 : Int32))) &&& (7 : Int32)) + (1 : Int32)) (((sv (v2 + (2 : Int32))) &&& (3 : Int32)) + (1 : Int32)) ((((sv (v2 + (1 : Int32))) &&& (7 : Int32)) + (1 : Int32)) - ((sv (v2 + (3 : Int32))) &&& (1 : Int32)))).isSome = true) then lp_L_law n 140 sl sv v2 0 0 0 0 0 0 0 0 (R_addTask F1 A1 (((sv (v2 + (1 : Int32))) &&& (7 : Int32)) + (1 : Int32)) (((sv (v2 + (2 : Int32))) &&& (3 : Int32)) + (1 : Int32)) ((((sv (v2 + (1 : Int32))) &&& (7 : Int32)) + (1 : Int32)) - ((sv (v2 + (3 : Int32))) &&& (1 : Int32)))).2.1 (R_addTask F1 A1 (((sv (v2 + (1 : Int32))) &&& (7 : Int32)) + (1 : Int32)) (((sv (v2 + (2 : Int32))) &&& (3 : Int32)) + (1 : Int32)) ((((sv (v2 + (1 : Int32))) &&& (7 : Int32)) + (1 : Int32)) - ((sv (v2 + (3 : Int32))) &&& (1 : Int32)))).2.2 else none)) else none) else some ((1 : Int32))) else some ((1 : Int32))) := by
  rw [lp_L_law, if_neg (by decide), if_pos rfl]
theorem lp_L_law_140 (n : Nat) (sl : Int32) (sv : Int32 → Int32) (v2 : Int32) (v7 : Int32) (v8 : Int32) (v9 : Int32) (v10 : Int32) (v11 : Int32) (w12 : Int64) (w14 : Int64) (w16 : Int64) (F1 : Nat → Int32) (A1 : Nat → Int32 → Int32) : lp_L_law (n + 1) 140 sl sv v2 v7 v8 v9 v10 v11 w12 w14 w16 F1 A1 = (if (¬ v2 < 0) ∧ (v2 < sl) then (if ((sv v2) &&& (4 : Int32)) = 0 then lp_L_law n 13 sl sv (v2 + (4 : Int32)) 0 0 0 0 0 0 0 0 F1 A1 else (if 0 < (f_getFrame F1) then (if (f_getHyperperiod F1) < (1 : Int32) then some ((0 : Int32)) else (if (60 : Int32) < (f_getHyperperiod F1) then some ((0 : Int32)) else (if (f_getTaskCount F1) < (1 : Int32) then some ((0 : Int32)) else (if (4 : Int32) < (f_getTaskCount F1) then some ((0 : Int32)) else (if ((en_L_tableSum  F1 A1 (f_getHyperperiod F1)).isSome = true) ∧ ((en_L_runSum  F1 A1 (f_getTaskCount F1)).isSome = true) ∧ ((en_L_cycleSum  F1 A1 (f_getTaskCount F1) (f_getHyperperiod F1)).isSome = true) ∧ ((en_build F1 A1 ((f_getHyperperiod F1) + (1 : Int32))).isSome = true) then (if (R_build F1 A1 ((f_getHyperperiod F1) + (1 : Int32))).1 = (-5 : Int32) then lp_L_law n 260 sl sv v2 (f_getHyperperiod F1) (f_getTaskCount F1) (f_getFrame F1) (f_getNow F1) (f_getMiss F1) (R_L_tableSum  F1 A1 (f_getHyperperiod F1)) (R_L_runSum  F1 A1 (f_getTaskCount F1)) (R_L_cycleSum  F1 A1 (f_getTaskCount F1) (f_getHyperperiod F1)) (R_build F1 A1 ((f_getHyperperiod F1) + (1 : Int32))).2.1 (R_build F1 A1 ((f_getHyperperiod F1) + (1 : Int32))).2.2 else some ((0 : Int32))) else none))))) else lp_L_law n 13 sl sv (v2 + (4 : Int32)) 0 0 0 0 0 0 0 0 F1 A1)) else none) := by
  rw [lp_L_law, if_neg (by decide), if_neg (by decide), if_pos rfl]
theorem lp_L_law_260 (n : Nat) (sl : Int32) (sv : Int32 → Int32) (v2 : Int32) (v7 : Int32) (v8 : Int32) (v9 : Int32) (v10 : Int32) (v11 : Int32) (w12 : Int64) (w14 : Int64) (w16 : Int64) (F1 : Nat → Int32) (A1 : Nat → Int32 → Int32) : lp_L_law (n + 1) 260 sl sv v2 v7 v8 v9 v10 v11 w12 w14 w16 F1 A1 = (if ((en_addTask F1 A1 (0 : Int32) (1 : Int32) (1 : Int32)).isSome = true) then (if (R_addTask F1 A1 (0 : Int32) (1 : Int32) (1 : Int32)).1 = (-1 : Int32) then lp_L_law n 273 sl sv v2 v7 v8 v9 v10 v11 w12 w14 w16 (R_addTask F1 A1 (0 : Int32) (1 : Int32) (1 : Int32)).2.1 (R_addTask F1 A1 (0 : Int32) (1 : Int32) (1 : Int32)).2.2 else some ((0 : Int32))) else none) := by
  rw [lp_L_law, if_neg (by decide), if_neg (by decide), if_neg (by decide), if_pos rfl]
theorem lp_L_law_273 (n : Nat) (sl : Int32) (sv : Int32 → Int32) (v2 : Int32) (v7 : Int32) (v8 : Int32) (v9 : Int32) (v10 : Int32) (v11 : Int32) (w12 : Int64) (w14 : Int64) (w16 : Int64) (F1 : Nat → Int32) (A1 : Nat → Int32 → Int32) : lp_L_law (n + 1) 273 sl sv v2 v7 v8 v9 v10 v11 w12 w14 w16 F1 A1 = (if ((en_run F1 A1 (0 : Int32)).isSome = true) then (if (R_run F1 A1 (0 : Int32)).1 = 0 then lp_L_law n 283 sl sv v2 v7 v8 v9 v10 v11 w12 w14 w16 (R_run F1 A1 (0 : Int32)).2.1 (R_run F1 A1 (0 : Int32)).2.2 else some ((0 : Int32))) else none) := by
  rw [lp_L_law, if_neg (by decide), if_neg (by decide), if_neg (by decide), if_neg (by decide), if_pos rfl]
theorem lp_L_law_283 (n : Nat) (sl : Int32) (sv : Int32 → Int32) (v2 : Int32) (v7 : Int32) (v8 : Int32) (v9 : Int32) (v10 : Int32) (v11 : Int32) (w12 : Int64) (w14 : Int64) (w16 : Int64) (F1 : Nat → Int32) (A1 : Nat → Int32 → Int32) : lp_L_law (n + 1) 283 sl sv v2 v7 v8 v9 v10 v11 w12 w14 w16 F1 A1 = (if ((en_run F1 A1 v7).isSome = true) then (if (R_run F1 A1 v7).1 = v7 then lp_L_law n 296 sl sv v2 v7 v8 v9 v10 v11 w12 w14 w16 (R_run F1 A1 v7).2.1 (R_run F1 A1 v7).2.2 else some ((0 : Int32))) else none) := by
  rw [lp_L_law, if_neg (by decide), if_neg (by decide), if_neg (by decide), if_neg (by decide), if_neg (by decide), if_pos rfl]
theorem lp_L_law_296 (n : Nat) (sl : Int32) (sv : Int32 → Int32) (v2 : Int32) (v7 : Int32) (v8 : Int32) (v9 : Int32) (v10 : Int32) (v11 : Int32) (w12 : Int64) (w14 : Int64) (w16 : Int64) (F1 : Nat → Int32) (A1 : Nat → Int32 → Int32) : lp_L_law (n + 1) 296 sl sv v2 v7 v8 v9 v10 v11 w12 w14 w16 F1 A1 = (if (f_getFrame F1) = v9 then (if (f_getHyperperiod F1) = v7 then (if (f_getTaskCount F1) = v8 then (if (f_getMiss F1) = v11 then (if (f_getNow F1) = (v10 + v7) then (if ((en_L_tableSum  F1 A1 v7).isSome = true) then (if (XT.cmpL (R_L_tableSum  F1 A1 v7) w12) = 0 then (if ((en_L_runSum  F1 A1 v8).isSome = true) then (if (XT.cmpL (R_L_runSum  F1 A1 v8) (w14 + w16)) = 0 then lp_L_law n 13 sl sv (v2 + (4 : Int32)) 0 0 0 0 0 0 0 0 F1 A1 else some ((0 : Int32))) else none) else some ((0 : Int32))) else none) else some ((0 : Int32))) else some ((0 : Int32))) else some ((0 : Int32))) else some ((0 : Int32))) else some ((0 : Int32))) := by
  rw [lp_L_law, if_neg (by decide), if_neg (by decide), if_neg (by decide), if_neg (by decide), if_neg (by decide), if_neg (by decide), if_pos rfl]
set_option maxRecDepth 65536 in
set_option maxHeartbeats 4000000 in
theorem lpw_L_law {l : Launch} {Z : State} {a0 : Array Value} (H : OK Z a0) (sl : Int32) (sv : Int32 → Int32) (G1 : Nat → Int64) (B1 : Nat → Int32 → Int64) : ∀ (n : Nat) (v2 : Int32) (v7 : Int32) (v8 : Int32) (v9 : Int32) (v10 : Int32) (v11 : Int32) (w12 : Int64) (w14 : Int64) (w16 : Int64) (F1 : Nat → Int32) (A1 : Nat → Int32 → Int32) (r : Int32), (lp_L_law n 11 sl sv v2 v7 v8 v9 v10 v11 w12 w14 w16 F1 A1 = some r → Wk l Z (MoL Z cdC "CyclicExecutiveL7" true) md_L_law 11 [.val (.ref 0), .val (.ref 1), .unset, .unset, .unset, .unset, .unset, .unset, .unset, .unset, .unset, .unset, .unset, .unset, .unset, .unset, .unset, .unset, .unset] [] (sl, sv, [(7, F1, G1, A1, B1)]) 8 1328 (fun v _ => v = some (.int r))) ∧ (lp_L_law n 13 sl sv v2 v7 v8 v9 v10 v11 w12 w14 w16 F1 A1 = some r → Wk l Z (MoL Z cdC "CyclicExecutiveL7" true) md_L_law 13 [.val (.ref 0), .val (.ref 1), .val (.int v2), .unset, .unset, .unset, .unset, .unset, .unset, .unset, .unset, .unset, .unset, .unset, .unset, .unset, .unset, .unset, .unset] [] (sl, sv, [(7, F1, G1, A1, B1)]) 8 1328 (fun v _ => v = some (.int r))) ∧ (lp_L_law n 140 sl sv v2 v7 v8 v9 v10 v11 w12 w14 w16 F1 A1 = some r → Wk l Z (MoL Z cdC "CyclicExecutiveL7" true) md_L_law 140 [.val (.ref 0), .val (.ref 1), .val (.int v2), .unset, .unset, .unset, .unset, .unset, .unset, .unset, .unset, .unset, .unset, .unset, .unset, .unset, .unset, .unset, .unset] [] (sl, sv, [(7, F1, G1, A1, B1)]) 8 1328 (fun v _ => v = some (.int r))) ∧ (lp_L_law n 260 sl sv v2 v7 v8 v9 v10 v11 w12 w14 w16 F1 A1 = some r → Wk l Z (MoL Z cdC "CyclicExecutiveL7" true) md_L_law 260 [.val (.ref 0), .val (.ref 1), .val (.int v2), .unset, .unset, .unset, .unset, .val (.int v7), .val (.int v8), .val (.int v9), .val (.int v10), .val (.int v11), .val (.long w12), .second, .val (.long w14), .second, .val (.long w16), .second, .unset] [] (sl, sv, [(7, F1, G1, A1, B1)]) 8 1328 (fun v _ => v = some (.int r))) ∧ (lp_L_law n 273 sl sv v2 v7 v8 v9 v10 v11 w12 w14 w16 F1 A1 = some r → Wk l Z (MoL Z cdC "CyclicExecutiveL7" true) md_L_law 273 [.val (.ref 0), .val (.ref 1), .val (.int v2), .unset, .unset, .unset, .unset, .val (.int v7), .val (.int v8), .val (.int v9), .val (.int v10), .val (.int v11), .val (.long w12), .second, .val (.long w14), .second, .val (.long w16), .second, .unset] [] (sl, sv, [(7, F1, G1, A1, B1)]) 8 1328 (fun v _ => v = some (.int r))) ∧ (lp_L_law n 283 sl sv v2 v7 v8 v9 v10 v11 w12 w14 w16 F1 A1 = some r → Wk l Z (MoL Z cdC "CyclicExecutiveL7" true) md_L_law 283 [.val (.ref 0), .val (.ref 1), .val (.int v2), .unset, .unset, .unset, .unset, .val (.int v7), .val (.int v8), .val (.int v9), .val (.int v10), .val (.int v11), .val (.long w12), .second, .val (.long w14), .second, .val (.long w16), .second, .unset] [] (sl, sv, [(7, F1, G1, A1, B1)]) 8 1328 (fun v _ => v = some (.int r))) ∧ (lp_L_law n 296 sl sv v2 v7 v8 v9 v10 v11 w12 w14 w16 F1 A1 = some r → Wk l Z (MoL Z cdC "CyclicExecutiveL7" true) md_L_law 296 [.val (.ref 0), .val (.ref 1), .val (.int v2), .unset, .unset, .unset, .unset, .val (.int v7), .val (.int v8), .val (.int v9), .val (.int v10), .val (.int v11), .val (.long w12), .second, .val (.long w14), .second, .val (.long w16), .second, .unset] [] (sl, sv, [(7, F1, G1, A1, B1)]) 8 1328 (fun v _ => v = some (.int r))) := by
  intro n
  induction n with
  | zero =>
    intro v2 v7 v8 v9 v10 v11 w12 w14 w16 F1 A1 r
    exact ⟨(fun h => by rw [lp_L_law_z] at h; cases h), (fun h => by rw [lp_L_law_z] at h; cases h), (fun h => by rw [lp_L_law_z] at h; cases h), (fun h => by rw [lp_L_law_z] at h; cases h), (fun h => by rw [lp_L_law_z] at h; cases h), (fun h => by rw [lp_L_law_z] at h; cases h), (fun h => by rw [lp_L_law_z] at h; cases h)⟩
  | succ n ih =>
    intro v2 v7 v8 v9 v10 v11 w12 w14 w16 F1 A1 r
    refine ⟨fun h => ?_, fun h => ?_, fun h => ?_, fun h => ?_, fun h => ?_, fun h => ?_, fun h => ?_⟩
    · rw [lp_L_law_11] at h
      exact wp_L_law_11 H sl sv F1 G1 A1 B1  ((ih _ _ _ _ _ _ _ _ _ _ _ _).2.1 h)
    · rw [lp_L_law_13] at h
      exact wp_L_law_13 H sl sv F1 G1 A1 B1 v2 (fun q1 => (rt_law (Option.some.inj (ifn q1 h)))) (fun q1 q3 => (rt_law (Option.some.inj (ifn q3 (ifp q1 h))))) (fun q1 q3 => (gd (ifp q3 (ifp q1 h))).1.1) (fun q1 q3 => (gd (ifp q3 (ifp q1 h))).1.2.1) (fun q1 q3 => (gd (ifp q3 (ifp q1 h))).1.2.2.1) (fun q1 q3 => (gd (ifp q3 (ifp q1 h))).1.2.2.2.1) (fun q1 q3 => (gd (ifp q3 (ifp q1 h))).1.2.2.2.2.1) (fun q1 q3 => (gd (ifp q3 (ifp q1 h))).1.2.2.2.2.2.1) (fun q1 q3 => (gd (ifp q3 (ifp q1 h))).1.2.2.2.2.2.2) (fun q1 q3 q12 q13 => (gd (ifn q13 (ifp q12 (gd (ifp q3 (ifp q1 h))).2))).1) (fun q1 q3 q12 q13 => (ih _ _ _ _ _ _ _ _ _ _ _ _).2.2.1 (gd (ifn q13 (ifp q12 (gd (ifp q3 (ifp q1 h))).2))).2) (fun q1 q3 q12 q13 => (gd (ifp q13 (ifp q12 (gd (ifp q3 (ifp q1 h))).2))).1) (fun q1 q3 q12 q13 => (ih _ _ _ _ _ _ _ _ _ _ _ _).2.2.1 (gd (ifp q13 (ifp q12 (gd (ifp q3 (ifp q1 h))).2))).2) (fun q1 q3 q12 => (gd (ifn q12 (gd (ifp q3 (ifp q1 h))).2)).1) (fun q1 q3 q12 => (ih _ _ _ _ _ _ _ _ _ _ _ _).2.2.1 (gd (ifn q12 (gd (ifp q3 (ifp q1 h))).2)).2)
    · rw [lp_L_law_140] at h
      exact wp_L_law_140 H sl sv F1 G1 A1 B1 v2 ((gd h).1.1) ((gd h).1.2) (fun q3 => (ih _ _ _ _ _ _ _ _ _ _ _ _).2.1 (ifp q3 (gd h).2)) (fun q3 q5 q6 => (rt_law (Option.some.inj (ifp q6 (ifp q5 (ifn q3 (gd h).2)))))) (fun q3 q5 q6 q8 => (rt_law (Option.some.inj (ifp q8 (ifn q6 (ifp q5 (ifn q3 (gd h).2))))))) (fun q3 q5 q6 q8 q10 => (rt_law (Option.some.inj (ifp q10 (ifn q8 (ifn q6 (ifp q5 (ifn q3 (gd h).2)))))))) (fun q3 q5 q6 q8 q10 q12 => (gd (ifn q12 (ifn q10 (ifn q8 (ifn q6 (ifp q5 (ifn q3 (gd h).2))))))).1.1) (fun q3 q5 q6 q8 q10 q12 => (gd (ifn q12 (ifn q10 (ifn q8 (ifn q6 (ifp q5 (ifn q3 (gd h).2))))))).1.2.1) (fun q3 q5 q6 q8 q10 q12 => (gd (ifn q12 (ifn q10 (ifn q8 (ifn q6 (ifp q5 (ifn q3 (gd h).2))))))).1.2.2.1) (fun q3 q5 q6 q8 q10 q12 => (gd (ifn q12 (ifn q10 (ifn q8 (ifn q6 (ifp q5 (ifn q3 (gd h).2))))))).1.2.2.2) (fun q3 q5 q6 q8 q10 q12 q17 => (ih _ _ _ _ _ _ _ _ _ _ _ _).2.2.2.1 (ifp q17 (gd (ifn q12 (ifn q10 (ifn q8 (ifn q6 (ifp q5 (ifn q3 (gd h).2))))))).2)) (fun q3 q5 q6 q8 q10 q12 q17 => (rt_law (Option.some.inj (ifn q17 (gd (ifn q12 (ifn q10 (ifn q8 (ifn q6 (ifp q5 (ifn q3 (gd h).2))))))).2)))) (fun q3 q5 q6 q8 q10 q12 => (rt_law (Option.some.inj (ifp q12 (ifn q10 (ifn q8 (ifn q6 (ifp q5 (ifn q3 (gd h).2))))))))) (fun q3 q5 => (ih _ _ _ _ _ _ _ _ _ _ _ _).2.1 (ifn q5 (ifn q3 (gd h).2)))
    · rw [lp_L_law_260] at h
      exact wp_L_law_260 H sl sv F1 G1 A1 B1 v2 v7 v8 v9 v10 v11 w12 w14 w16 ((gd h).1) (fun q2 => (ih _ _ _ _ _ _ _ _ _ _ _ _).2.2.2.2.1 (ifp q2 (gd h).2)) (fun q2 => (rt_law (Option.some.inj (ifn q2 (gd h).2))))
    · rw [lp_L_law_273] at h
      exact wp_L_law_273 H sl sv F1 G1 A1 B1 v2 v7 v8 v9 v10 v11 w12 w14 w16 ((gd h).1) (fun q2 => (ih _ _ _ _ _ _ _ _ _ _ _ _).2.2.2.2.2.1 (ifp q2 (gd h).2)) (fun q2 => (rt_law (Option.some.inj (ifn q2 (gd h).2))))
    · rw [lp_L_law_283] at h
      exact wp_L_law_283 H sl sv F1 G1 A1 B1 v2 v7 v8 v9 v10 v11 w12 w14 w16 ((gd h).1) (fun q2 => (ih _ _ _ _ _ _ _ _ _ _ _ _).2.2.2.2.2.2 (ifp q2 (gd h).2)) (fun q2 => (rt_law (Option.some.inj (ifn q2 (gd h).2))))
    · rw [lp_L_law_296] at h
      exact wp_L_law_296 H sl sv F1 G1 A1 B1 v2 v7 v8 v9 v10 v11 w12 w14 w16 (fun q1 => (rt_law (Option.some.inj (ifn q1 h)))) (fun q1 q3 => (rt_law (Option.some.inj (ifn q3 (ifp q1 h))))) (fun q1 q3 q5 => (rt_law (Option.some.inj (ifn q5 (ifp q3 (ifp q1 h)))))) (fun q1 q3 q5 q7 q8 => (rt_law (Option.some.inj (ifn q8 (ifp q7 (ifp q5 (ifp q3 (ifp q1 h)))))))) (fun q1 q3 q5 q7 q8 => (gd (ifp q8 (ifp q7 (ifp q5 (ifp q3 (ifp q1 h)))))).1) (fun q1 q3 q5 q7 q8 q11 => (gd (ifp q11 (gd (ifp q8 (ifp q7 (ifp q5 (ifp q3 (ifp q1 h)))))).2)).1) (fun q1 q3 q5 q7 q8 q11 q13 => (ih _ _ _ _ _ _ _ _ _ _ _ _).2.1 (ifp q13 (gd (ifp q11 (gd (ifp q8 (ifp q7 (ifp q5 (ifp q3 (ifp q1 h)))))).2)).2)) (fun q1 q3 q5 q7 q8 q11 q13 => (rt_law (Option.some.inj (ifn q13 (gd (ifp q11 (gd (ifp q8 (ifp q7 (ifp q5 (ifp q3 (ifp q1 h)))))).2)).2)))) (fun q1 q3 q5 q7 q8 q11 => (rt_law (Option.some.inj (ifn q11 (gd (ifp q8 (ifp q7 (ifp q5 (ifp q3 (ifp q1 h)))))).2)))) (fun q1 q3 q5 q7 => (rt_law (Option.some.inj (ifn q7 (ifp q5 (ifp q3 (ifp q1 h)))))))
def en_L_law (sl : Int32) (sv : Int32 → Int32) : Option (Int32) := lp_L_law 1000 11 sl sv 0 0 0 0 0 0 0 0 0 (F_init (4 : Int32) (60 : Int32)) (fun _ _ => 0)
theorem een_L_law (sl : Int32) (sv : Int32 → Int32) : en_L_law sl sv   = lp_L_law 1000 11 sl sv 0 0 0 0 0 0 0 0 0 (F_init (4 : Int32) (60 : Int32)) (fun _ _ => 0) := Eq.trans rfl rfl
set_option maxRecDepth 65536 in
set_option maxHeartbeats 4000000 in
theorem run_law {l : Launch} {Z : State} {a0 : Array Value} (H : OK Z a0) (sl : Int32) (sv : Int32 → Int32) (h : en_L_law sl sv  = some 1) : Wk l Z (MoL Z cdC "CyclicExecutiveL7" true) md_L_law 0 [.val (.ref 0), .unset, .unset, .unset, .unset, .unset, .unset, .unset, .unset, .unset, .unset, .unset, .unset, .unset, .unset, .unset, .unset, .unset, .unset] [] (sl, sv, []) 0 0 (fun v _ => v = some (.int (1 : Int32))) := by
  rw [een_L_law] at h
  exact wp_L_law H sl sv  ((lpw_L_law H sl sv _ _ _ _ _ _ _ _ _ _ _ _ _ _ _).1 h)
def Ok {α : Type} (o : Option α) (P : α → Prop) : Prop := ∃ r, o = some r ∧ P r
theorem Ok.ret {α : Type} {r : α} {P : α → Prop} (h : P r) : Ok (some r) P := ⟨r, rfl, h⟩
theorem Ok.ift {α : Type} {c : Prop} [Decidable c] {x : Option α} {P : α → Prop} (h : c) (k : Ok x P) : Ok (if c then x else none) P := by rw [if_pos h]; exact k
theorem Ok.ite {α : Type} {c : Prop} [Decidable c] {x y : Option α} {P : α → Prop} (h : c → Ok x P) (k : ¬ c → Ok y P) : Ok (if c then x else y) P := by
  by_cases q : c
  · rw [if_pos q]; exact h q
  · rw [if_neg q]; exact k q
theorem Ok.mono {α : Type} {x : Option α} {P Q : α → Prop} (h : Ok x P) (k : ∀ r, P r → Q r) : Ok x Q := by
  obtain ⟨r, e, p⟩ := h; exact ⟨r, e, k r p⟩
theorem Ok.S {α : Type} {x : Option α} {P : α → Prop} (h : Ok x P) : x.isSome = true := by obtain ⟨r, e, p⟩ := h; rw [e]; rfl
theorem Ok.R {α : Type} {x : Option α} {R d : α} {P : α → Prop} (h : Ok x P) (e : R = x.getD d) : x.isSome = true ∧ P R := by
  obtain ⟨r, q, p⟩ := h; refine ⟨by rw [q]; rfl, ?_⟩; rw [e, q]; exact p
theorem fu_nxt {v c : Int32} {n : Nat} (h : v < c) (hn : c.toInt < v.toInt + ((n + 1 : Nat) : Int)) : c.toInt < (v + 1).toInt + (n : Int) := by
  rw [succ_toInt h]; omega
theorem fu_z {v c : Int32} (h : ¬ c < v) (hn : c.toInt < v.toInt + ((0 : Nat) : Int)) : False := by
  rw [lt_i] at h; omega
theorem ifS {α β : Type} {x : α} {a b : β} : (if (some x).isSome = true then a else b) = a := if_pos rfl
theorem r_of {α : Type} {R : α} {o : Option α} {d r : α} (e : R = o.getD d) (h : o = some r) : R = r := e.trans (getD_some h)
theorem scan {σ : Type} (At : Int32 → σ → Prop) (Inv : Int32 → σ → Prop) (sl : Int32) (step : ∀ i s, Inv i s → (∀ j s', i.toInt < j.toInt → j.toInt ≤ sl.toInt → Inv j s' → At j s') → At i s) : ∀ i s, Inv i s → At i s := by
  have key : ∀ (n : Nat) (i : Int32) (s : σ), (sl.toInt - i.toInt).toNat ≤ n → Inv i s → At i s := by
    intro n
    induction n with
    | zero => exact fun i s hn hI => step i s hI fun j s' h1 h2 hJ => absurd h1 (by omega)
    | succ n ih => exact fun i s hn hI => step i s hI fun j s' h1 h2 hJ => ih j s' (by omega) hJ
  exact fun i s h => key _ i s (Nat.le_refl _) h
theorem adv (i sl c : Int32) (k : Nat) (hc : c.toInt = k) (hk : k ≤ 16) (h0 : ¬ i < 0) (h1 : ¬ 260 < i) : (i + c).toInt = i.toInt + k := by
  rw [lt_i] at h0 h1
  have z : (0 : Int32).toInt = 0 := by decide
  have z2 : (260 : Int32).toInt = 260 := by decide
  rw [z] at h0; rw [z2] at h1
  rw [add_toInt (by omega) (by omega), hc]
theorem nn_i {i : Int32} (h : ¬ i < 0) : 0 ≤ i.toInt := by
  rw [lt_i] at h; have z : (0 : Int32).toInt = 0 := by decide
  omega
theorem le_260 {i : Int32} (h : ¬ 260 < i) : i.toInt ≤ 260 := by
  rw [lt_i] at h; have z : (260 : Int32).toInt = 260 := by decide
  omega
theorem i_nn {i : Int32} (h : 0 ≤ i.toInt) : ¬ i < 0 := by
  rw [lt_i]; have z : (0 : Int32).toInt = 0 := by decide
  omega
theorem i_260 {i : Int32} (h : i.toInt ≤ 260) : ¬ 260 < i := by
  rw [lt_i]; have z : (260 : Int32).toInt = 260 := by decide
  omega
/-- i + b < sl, then on by c = b + 1 -/
theorem advS {i sl b c : Int32} (k : Nat) (hb : b.toInt = k) (hc : c.toInt = k + 1) (hk : k ≤ 15) (h0 : ¬ i < 0) (h1 : ¬ 260 < i) (hs : ¬ 260 < sl) (q : i + b < sl) : i.toInt < (i + c).toInt ∧ (i + c).toInt ≤ sl.toInt ∧ ¬ i + c < 0 ∧ ¬ 260 < i + c := by
  have e1 := adv i sl b k hb (by omega) h0 h1
  have e2 := adv i sl c (k + 1) (by rw [hc]; rfl) (by omega) h0 h1
  have a := nn_i h0
  have b' := le_260 hs
  have q' := lt_i.mp q
  refine ⟨by omega, by omega, i_nn (by omega), i_260 (by omega)⟩
theorem toN (n : Nat) (h : n < 2147483648) : (Int32.ofNat n).toInt = n := Int32.toInt_ofNat_of_lt (by omega)
theorem mask_fin (p m : Int32) (k : Nat) (hk : k < 31) (hm : m.toBitVec.toNat = 2 ^ k - 1) : ∃ s : Fin (2 ^ k), p &&& m = Int32.ofNat s.1 := by
  have h := and_mask p m k hk hm
  have h3 : (2 ^ k : Nat) ≤ 2 ^ 30 := Nat.pow_le_pow_right (by decide) (by omega)
  have h4 : (2 ^ 30 : Nat) = 1073741824 := by decide
  have h5 : (0 : Int) < ((2 ^ k : Nat) : Int) := by have := Nat.two_pow_pos k; omega
  have h1 := Int.emod_nonneg p.toInt (Int.ne_of_gt h5)
  have h2 := Int.emod_lt_of_pos p.toInt h5
  refine ⟨⟨(p.toInt % ((2 ^ k : Nat) : Int)).toNat, by omega⟩, Int32.toInt_inj.mp ?_⟩
  show (p &&& m).toInt = (Int32.ofNat (p.toInt % ((2 ^ k : Nat) : Int)).toNat).toInt
  rw [h, toN _ (by omega)]; omega
theorem as_fin (N : Nat) (hN : N < 1000) (p : Int32) (h1 : ¬ p < 1) (h2 : ¬ Int32.ofNat N < p) : ∃ q : Fin N, p = Int32.ofNat (q.1 + 1) := by
  rw [lt_i] at h1 h2
  have z1 : (1 : Int32).toInt = 1 := by decide
  rw [toN N (by omega)] at h2
  refine ⟨⟨p.toInt.toNat - 1, by omega⟩, Int32.toInt_inj.mp ?_⟩
  show p.toInt = (Int32.ofNat (p.toInt.toNat - 1 + 1)).toInt
  rw [toN _ (by omega)]; omega
theorem as_fin0 (N : Nat) (hN : N < 1000) (p : Int32) (h1 : ¬ p < 0) (h2 : p < Int32.ofNat N) : ∃ q : Fin N, p = Int32.ofNat q.1 := by
  rw [lt_i] at h1 h2
  have z1 : (0 : Int32).toInt = 0 := by decide
  rw [toN N (by omega)] at h2
  refine ⟨⟨p.toInt.toNat, by omega⟩, Int32.toInt_inj.mp ?_⟩
  show p.toInt = (Int32.ofNat p.toInt.toNat).toInt
  rw [toN _ (by omega)]; omega
theorem l_gcd : ∀ (n : Nat) (a b v : Int32), ¬ v < 0 → ¬ 64 < v → (64 : Int32).toInt < v.toInt + (n : Int) → Ok (lp_gcd n 8 a b v) (fun _ => True) := by
  intro n
  induction n with
  | zero => exact fun a b v _ h1 h2 => (fu_z h1 h2).elim
  | succ n ih =>
    intro a b v h0 h1 h2
    rw [lp_gcd_8]
    exact Ok.ite (fun q => Ok.ite (fun _ => Ok.ret trivial) fun z => Ok.ift z (ih _ _ (v + 1) (by grind) (by grind) (fu_nxt q h2))) fun _ => Ok.ret trivial
theorem o_gcd (a b : Int32) : Ok (en_gcd a b) (fun _ => True) := by
  rw [een_gcd]; exact l_gcd _ a b 0 (by decide) (by decide) (by decide)
theorem c_lcm : ∀ (a : Fin 60) (b : Fin 8), (en_lcm (Int32.ofNat (a.1 + 1)) (Int32.ofNat (b.1 + 1))).isSome = true ∧ ¬ R_lcm (Int32.ofNat (a.1 + 1)) (Int32.ofNat (b.1 + 1)) < 1 := by decide +kernel
theorem o_lcm (a b : Int32) (h1 : ¬ a < 1) (h2 : ¬ 60 < a) (h3 : ¬ b < 1) (h4 : ¬ 8 < b) : (en_lcm a b).isSome = true ∧ ¬ R_lcm a b < 1 := by
  obtain ⟨x, rfl⟩ := as_fin 60 (by decide) a h1 h2
  obtain ⟨y, rfl⟩ := as_fin 8 (by decide) b h3 h4
  exact c_lcm x y
abbrev RD (F : Nat → Int32) (A : Nat → Int32 → Int32) : Int32 × (Nat → Int32) × (Nat → Int32 → Int32) → Prop := fun r => r.2.1 = F ∧ (∀ j, j ≠ 3 → r.2.2 j = A j) ∧ ∀ k : Int32, ¬ k < 0 → k < 8 → r.2.2 3 k = 0
theorem l_rd (F : Nat → Int32) : ∀ (n : Nat) (v : Int32) (A : Nat → Int32 → Int32), ¬ v < 0 → ¬ 8 < v → (8 : Int32).toInt < v.toInt + (n : Int) → (∀ k : Int32, ¬ k < 0 → k < v → A 3 k = 0) → Ok (lp_resetDispatcher n 12 v F A) (RD F A) := by
  intro n
  induction n with
  | zero => exact fun v A _ h1 h2 _ => (fu_z h1 h2).elim
  | succ n ih =>
    intro v A h0 h1 h2 h3
    rw [lp_resetDispatcher_12]
    refine Ok.ite (fun q => Ok.ift h0 ?_) fun q => Ok.ret ⟨rfl, fun _ _ => rfl, fun k a b => h3 k a (by grind)⟩
    refine (ih (v + 1) _ (by grind) (by grind) (fu_nxt q h2) fun k a b => ?_).mono fun r p => ⟨p.1, fun j hj => by rw [p.2.1 j hj]; simp [ups, hj], p.2.2⟩
    by_cases c : k = v
    · subst c; simp [ups]
    · have := h3 k a (by grind); simp [ups, c, this]
theorem o_rd (F : Nat → Int32) (A : Nat → Int32 → Int32) : Ok (en_resetDispatcher F A) (RD (ups (ups F 7 0) 8 0) A) := by
  rw [een_resetDispatcher]
  exact l_rd _ _ 0 A (by decide) (by decide) (by decide) fun k a b => absurd b a
abbrev Iv (m : Int) (F : Nat → Int32) (A : Nat → Int32 → Int32) : Prop := (F 0 = 4) ∧ (F 1 = 60) ∧ (¬ F 2 < 0 ∧ ¬ 4 < F 2) ∧ (F 2 = 0 → F 4 = 0) ∧ (0 < F 2 → ¬ F 3 < 1 ∧ ¬ 60 < F 3 ∧ ¬ F 8 < 0 ∧ F 8 < F 3) ∧ (∀ i : Int32, ¬ i < 0 → i < F 2 → ¬ A 0 i < 1) ∧ (∀ k : Int32, ¬ k < 0 → k < 8 → 0 ≤ (A 3 k).toInt ∧ (A 3 k).toInt ≤ m)
theorem Iv.f0 {m : Int} {F : Nat → Int32} {A : Nat → Int32 → Int32} (h : Iv m F A) : F 0 = 4 := h.1
theorem Iv.f1 {m : Int} {F : Nat → Int32} {A : Nat → Int32 → Int32} (h : Iv m F A) : F 1 = 60 := h.2.1
theorem Iv.f2 {m : Int} {F : Nat → Int32} {A : Nat → Int32 → Int32} (h : Iv m F A) : ¬ F 2 < 0 ∧ ¬ 4 < F 2 := h.2.2.1
theorem Iv.f4 {m : Int} {F : Nat → Int32} {A : Nat → Int32 → Int32} (h : Iv m F A) : F 2 = 0 → F 4 = 0 := h.2.2.2.1
theorem Iv.f3 {m : Int} {F : Nat → Int32} {A : Nat → Int32 → Int32} (h : Iv m F A) : 0 < F 2 → ¬ F 3 < 1 ∧ ¬ 60 < F 3 ∧ ¬ F 8 < 0 ∧ F 8 < F 3 := h.2.2.2.2.1
theorem Iv.a0 {m : Int} {F : Nat → Int32} {A : Nat → Int32 → Int32} (h : Iv m F A) : ∀ i : Int32, ¬ i < 0 → i < F 2 → ¬ A 0 i < 1 := h.2.2.2.2.2.1
theorem Iv.a3 {m : Int} {F : Nat → Int32} {A : Nat → Int32 → Int32} (h : Iv m F A) : ∀ k : Int32, ¬ k < 0 → k < 8 → 0 ≤ (A 3 k).toInt ∧ (A 3 k).toInt ≤ m := h.2.2.2.2.2.2
theorem Iv.w {m m' : Int} {F : Nat → Int32} {A A' : Nat → Int32 → Int32} (h : Iv m F A) (a : ∀ i : Int32, ¬ i < 0 → i < F 2 → ¬ A' 0 i < 1) (b : ∀ k : Int32, ¬ k < 0 → k < 8 → 0 ≤ (A' 3 k).toInt ∧ (A' 3 k).toInt ≤ m') : Iv m' F A' := ⟨h.f0, h.f1, h.f2, h.f4, h.f3, a, b⟩
theorem Iv.up {m m' : Int} {F : Nat → Int32} {A : Nat → Int32 → Int32} (h : Iv m F A) (q : m ≤ m') : Iv m' F A :=
  h.w h.a0 fun k a b => ⟨(h.a3 k a b).1, Int.le_trans (h.a3 k a b).2 q⟩
abbrev I3 (m : Int) : Int32 × (Nat → Int32) × (Nat → Int32 → Int32) → Prop := fun r => Iv m r.2.1 r.2.2
theorem z0 : (0 : Int32).toInt = 0 := by decide
theorem o_add {m : Int} (hm : 0 ≤ m) {F : Nat → Int32} {A : Nat → Int32 → Int32} (h : Iv m F A) (p1 p2 p3 : Int32) (b : ¬ 8 < p1) : Ok (en_addTask F A p1 p2 p3) (I3 m) := by
  rw [een_addTask]
  refine Ok.ite (fun _ => Ok.ret h) fun q1 => Ok.ite (fun _ => Ok.ret h) fun _ => Ok.ite (fun _ => Ok.ret h) fun _ => Ok.ite (fun _ => Ok.ret h) fun _ => Ok.ite (fun _ => Ok.ret h) fun _ => Ok.ite (fun _ => Ok.ret h) fun _ => Ok.ite (fun q => ?_) fun _ => Ok.ret h
  rw [h.f0] at q
  have bb : ¬ (if F 2 = 0 then (1 : Int32) else F 3) < 1 ∧ ¬ 60 < (if F 2 = 0 then (1 : Int32) else F 3) := by
    have f2 := h.f2
    by_cases c : F 2 = 0
    · rw [if_pos c]; decide
    · rw [if_neg c]; have := h.f3 (by grind); exact ⟨this.1, this.2.1⟩
  have L := o_lcm _ p1 bb.1 bb.2 q1 b
  generalize R_lcm (if F 2 = 0 then (1 : Int32) else F 3) p1 = l at L ⊢
  refine Ok.ift L.1 (Ok.ite (fun _ => Ok.ret h) fun q2 => ?_)
  rw [h.f1] at q2
  have s := (o_rd (ups (ups (ups (ups (ups F 2 (F 2 + 1)) 3 l) 4 0) 5 0) 6 (-1)) (ups (ups (ups A 0 (ups (A 0) (F 2) p1)) 1 (ups (A 1) (F 2) p2)) 2 (ups (A 2) (F 2) p3))).R (eR_resetDispatcher _ _)
  refine Ok.ift ⟨h.f2.1, by grind, s.1⟩ (Ok.ret ?_)
  obtain ⟨s1, s2, s3, s4⟩ := s
  dsimp only [I3]
  rw [s2]
  have f2 := h.f2
  refine ⟨by simpa [ups] using h.f0, by simpa [ups] using h.f1, ?_, fun c => ?_, fun _ => ?_, fun i i0 i1 => ?_, fun k k0 k1 => ?_⟩
  · simp [ups]; grind
  · simp [ups]
  · have := L.2; simp [ups]; grind
  · rw [s3 0 (by decide)]
    have i1' : i < F 2 + 1 := by simpa [ups] using i1
    by_cases c : i = F 2
    · subst c; simpa [ups] using q1
    · have := h.a0 i i0 (by grind)
      simpa [ups, c] using this
  · rw [s4 k k0 k1, z0]; exact ⟨Int.le_refl _, hm⟩
theorem o_dv (F : Nat → Int32) (p : Int32) : Ok (en_dividesHyper F p) (fun r => (¬ r = 0 → ¬ p < 1 ∧ ¬ F 3 < p) ∧ (F 3 < p → r = 0)) := by
  rw [een_dividesHyper]
  refine Ok.ift (fun _ a _ => by grind) (Ok.ret ⟨fun h => ?_, fun h => ?_⟩)
  · by_cases a : 0 < F 2
    · rw [if_pos a] at h
      by_cases b : p < 1
      · rw [if_pos b] at h; exact absurd nar0 h
      · rw [if_neg b] at h
        by_cases c : F 3 < p
        · rw [if_pos c] at h; exact absurd nar0 h
        · exact ⟨b, c⟩
    · rw [if_neg a] at h; exact absurd nar0 h
  · rw [if_pos h, ite_self, ite_self]; exact nar0
theorem l_dk {m : Int} {F : Nat → Int32} {A : Nat → Int32 → Int32} (h : Iv m F A) (f : Int32) : ∀ (n : Nat) (v : Int32), ¬ v < 0 → ¬ F 2 < v → (F 2).toInt < v.toInt + (n : Int) → Ok (lp_deadlinesOk n 2 f v F A) (fun _ => True) := by
  intro n
  induction n with
  | zero => exact fun v _ h1 h2 => (fu_z h1 h2).elim
  | succ n ih =>
    intro v h0 h1 h2
    have f2 := h.f2
    rw [lp_deadlinesOk_2]
    exact Ok.ite (fun q => Ok.ift ⟨h0, by grind, (o_gcd _ _).S⟩ (Ok.ite (fun _ => Ok.ret trivial) fun _ => ih (v + 1) (by grind) (by grind) (fu_nxt q h2))) fun _ => Ok.ret trivial
theorem f2_i {m : Int} {F : Nat → Int32} {A : Nat → Int32 → Int32} (h : Iv m F A) : 0 ≤ (F 2).toInt ∧ (F 2).toInt ≤ 4 := by
  have f2 := h.f2
  rw [lt_i, lt_i] at f2
  have z4 : (4 : Int32).toInt = 4 := by decide
  rw [z0, z4] at f2; omega
theorem o_dk {m : Int} {F : Nat → Int32} {A : Nat → Int32 → Int32} (h : Iv m F A) (f : Int32) : Ok (en_deadlinesOk F A f) (fun _ => True) := by
  rw [een_deadlinesOk]
  have := f2_i h
  have f2 := h.f2
  exact l_dk h f _ 0 (by decide) (by grind) (by rw [z0]; omega)
abbrev K6 (A : Nat → Int32 → Int32) : Int32 × (Nat → Int32 → Int32) → Prop := fun r => ∀ j, j ≠ 4 → j ≠ 5 → j ≠ 6 → r.2 j = A j
theorem l_ij (F : Nat → Int32) (f2 : ¬ F 2 < 0 ∧ ¬ 4 < F 2) : ∀ (n : Nat), (∀ (v1 a b : Int32) (A : Nat → Int32 → Int32), ¬ v1 < 0 → ¬ F 2 < v1 → (∀ i : Int32, ¬ i < 0 → i < F 2 → ¬ A 0 i < 1) → 140 * (4 - v1.toInt) + 2 ≤ (n : Int) → Ok (lp_initJobs n 2 v1 a b F A) (K6 A)) ∧ (∀ (v1 v2 v3 : Int32) (A : Nat → Int32 → Int32), ¬ v1 < 0 → v1 < F 2 → ¬ v3 < 0 → ¬ 128 < v3 → (∀ i : Int32, ¬ i < 0 → i < F 2 → ¬ A 0 i < 1) → 140 * (3 - v1.toInt) + 3 + (130 - v3.toInt) ≤ (n : Int) → Ok (lp_initJobs n 24 v1 v2 v3 F A) (K6 A)) := by
  intro n
  have z4 : (4 : Int32).toInt = 4 := by decide
  have z128 : (128 : Int32).toInt = 128 := by decide
  induction n with
  | zero =>
    refine ⟨fun v1 a b A h0 h1 _ h2 => ?_, fun v1 v2 v3 A h0 h1 k0 k1 _ h2 => ?_⟩
    · exfalso; rw [lt_i] at h0 h1; have a := f2.2; rw [lt_i] at a; omega
    · exfalso; rw [lt_i] at h0 h1 k0 k1; have a := f2.2; rw [lt_i] at a; omega
  | succ n ih =>
    refine ⟨fun v1 a b A h0 h1 hA h2 => ?_, fun v1 v2 v3 A h0 h1 k0 k1 hA h2 => ?_⟩
    · rw [lp_initJobs_2]
      refine Ok.ite (fun q => Ok.ift ⟨h0, by grind, ?_⟩ (ih.2 v1 _ 0 A h0 q (by decide) (by decide) hA (by rw [z0]; omega))) fun _ => Ok.ret fun _ _ _ _ => rfl
      have := hA v1 h0 q
      intro z; rw [z] at this; exact this (by decide)
    · rw [lp_initJobs_24]
      have es := succ_toInt h1
      have nxt : Ok (lp_initJobs n 2 (v1 + 1) 0 0 F A) (K6 A) := ih.1 (v1 + 1) 0 0 A (by grind) (by grind) hA (by rw [lt_i] at k1; omega)
      refine Ok.ite (fun _ => Ok.ite (fun q => Ok.ift ⟨h0, by grind, by grind, by grind⟩ ?_) fun _ => nxt) fun _ => nxt
      have e3 := succ_toInt q
      refine (ih.2 v1 v2 (v3 + 1) _ h0 h1 (by grind) (by grind) (fun i i0 i1 => by simpa [ups] using hA i i0 i1) (by omega)).mono fun r p j j4 j5 j6 => ?_
      rw [p j j4 j5 j6]; simp [ups, j6]
theorem o_ij {m : Int} {F : Nat → Int32} {A : Nat → Int32 → Int32} (h : Iv m F A) : Ok (en_initJobs F A) (K6 A) := by
  rw [een_initJobs]
  have f2 := h.f2
  exact (l_ij F h.f2 _).1 0 0 0 A (by decide) (by grind) h.a0 (by decide)
theorem l_pj (F : Nat → Int32) (f2 : ¬ F 2 < 0 ∧ ¬ 4 < F 2) (A : Nat → Int32 → Int32) (hA : ∀ i : Int32, ¬ i < 0 → i < F 2 → ¬ A 0 i < 1) (a b : Int32) : ∀ (n : Nat) (c d v : Int32), ¬ v < 0 → ¬ F 2 < v → (F 2).toInt < v.toInt + (n : Int) → (c < 0 ∨ (¬ c < 0 ∧ c < 1024 ∧ 0 < A 6 c)) → Ok (lp_pickJob n 8 a b c d v F A) (fun r => r < 0 ∨ (¬ r < 0 ∧ r < 1024 ∧ 0 < A 6 r)) := by
  intro n
  induction n with
  | zero => exact fun c d v _ h1 h2 _ => (fu_z h1 h2).elim
  | succ n ih =>
    intro c d v h0 h1 h2 h3
    rw [lp_pickJob_8]
    refine Ok.ite (fun q => ?_) fun _ => Ok.ret h3
    have a0 := hA v h0 q
    have nz : ¬ A 0 v = 0 := fun z => by rw [z] at a0; exact a0 (by decide)
    generalize a * b / A 0 v = k
    generalize k * A 0 v + A 2 v = dl
    generalize (a + 1) * b = e
    have v8 : v < 4 := by grind
    refine Ok.ift ⟨h0, by grind, nz, fun _ _ => h0, fun _ _ => by grind, fun _ _ _ => by grind, fun _ _ _ => by grind⟩ (ih _ _ (v + 1) (by grind) (by grind) (fu_nxt q h2) ?_)
    by_cases k0 : k < 0
    · rw [if_pos k0]; exact h3
    rw [if_neg k0]
    by_cases k1 : k < 128
    rotate_left
    · rw [if_neg k1]; exact h3
    rw [if_pos k1]
    by_cases k2 : dl < e
    · rw [if_pos k2]; exact h3
    rw [if_neg k2]
    by_cases k3 : 0 < A 6 (v * 128 + k)
    rotate_left
    · rw [if_neg k3]; exact h3
    rw [if_pos k3]
    have g : ¬ (v * 128 + k) < 0 ∧ v * 128 + k < 1024 ∧ 0 < A 6 (v * 128 + k) := ⟨by grind, by grind, k3⟩
    by_cases k4 : c < 0
    · rw [if_pos k4]; exact Or.inr g
    rw [if_neg k4]
    by_cases k5 : dl < d
    · rw [if_pos k5]; exact Or.inr g
    rw [if_neg k5]; exact h3
theorem o_pj (F : Nat → Int32) (f2 : ¬ F 2 < 0 ∧ ¬ 4 < F 2) (A : Nat → Int32 → Int32) (hA : ∀ i : Int32, ¬ i < 0 → i < F 2 → ¬ A 0 i < 1) (a b : Int32) : Ok (en_pickJob F A a b) (fun r => r < 0 ∨ (¬ r < 0 ∧ r < 1024 ∧ 0 < A 6 r)) := by
  rw [een_pickJob]
  have g := f2
  rw [lt_i, lt_i] at g
  have z4 : (4 : Int32).toInt = 4 := by decide
  exact l_pj F f2 A hA a b _ _ _ 0 (by decide) (by grind) (by rw [z0]; omega) (Or.inl (by decide))
theorem wlem (e s r : Int32) (h0 : ¬ s < 0) (h1 : s < e) (h2 : ¬ 1000 < e) (hr : 0 < r) : ¬ e < s + (if e - s < r then e - s else r) ∧ ¬ s + (if e - s < r then e - s else r) < 0 := by
  by_cases c : e - s < r
  · rw [if_pos c, show s + (e - s) = e by grind]; grind
  · rw [if_neg c]
    have z : (1000 : Int32).toInt = 1000 := by decide
    have zz : (0 : Int32).toInt = 0 := by decide
    have e1 : (e - s).toInt = e.toInt - s.toInt := by
      rw [lt_i] at h0 h1 h2
      rw [Int32.toInt_sub, Int.bmod_eq_of_le (by omega) (by omega)]
    rw [lt_i] at h0 h1 h2 c hr
    have e2 : (s + r).toInt = s.toInt + r.toInt := add_toInt (by omega) (by omega)
    rw [lt_i, lt_i, e2]; omega
theorem l_ff (F : Nat → Int32) (f2 : ¬ F 2 < 0 ∧ ¬ 4 < F 2) (j f e : Int32) (hf : ¬ 8 < f) (he : ¬ 1000 < e) : ∀ (n : Nat), (∀ (s g a b c d x : Int32) (A : Nat → Int32 → Int32), ¬ s < 0 → ¬ e < s → ¬ g < 0 → ¬ f < g → (∀ i : Int32, ¬ i < 0 → i < F 2 → ¬ A 0 i < 1) → 140 * (8 - g.toInt) + 2 ≤ (n : Int) → Ok (lp_fillFrame n 14 j f e s g a b c d x F A) (K6 A)) ∧ (∀ (s g p w tk jb t : Int32) (A : Nat → Int32 → Int32), ¬ s < 0 → ¬ g < 0 → g < f → ¬ p < 0 → p < 1024 → ¬ e < s + w → ¬ s + w < 0 → ¬ t < 0 → (∀ i : Int32, ¬ i < 0 → i < F 2 → ¬ A 0 i < 1) → 140 * (7 - g.toInt) + 3 + (130 - t.toInt) ≤ (n : Int) → 140 * (7 - g.toInt) + 3 ≤ (n : Int) → Ok (lp_fillFrame n 86 j f e s g p w tk jb t F A) (K6 A)) := by
  intro n
  have z8 : (8 : Int32).toInt = 8 := by decide
  have z128 : (128 : Int32).toInt = 128 := by decide
  induction n with
  | zero =>
    refine ⟨fun s g a b c d x A h0 h1 g0 g1 _ h2 => ?_, fun s g p w tk jb t A h0 g0 g1 p0 p1 w1 w2 t0 _ h2 h3 => ?_⟩
    · exfalso; rw [lt_i] at g0 g1 hf; omega
    · exfalso; rw [lt_i] at g0 g1 hf; omega
  | succ n ih =>
    refine ⟨fun s g a b c d x A h0 h1 g0 g1 hA h2 => ?_, fun s g p w tk jb t A h0 g0 g1 p0 p1 w1 w2 t0 hA h2 h3 => ?_⟩
    · rw [lp_fillFrame_14]
      refine Ok.ite (fun q => Ok.ite (fun q2 => ?_) fun _ => Ok.ret fun _ _ _ _ => rfl) fun _ => Ok.ret fun _ _ _ _ => rfl
      have o := (o_pj F f2 A hA j f).R (eR_pickJob F A j f)
      generalize R_pickJob F A j f = p at o ⊢
      refine Ok.ift o.1 (Ok.ite (fun _ => Ok.ret fun _ _ _ _ => rfl) fun q3 => ?_)
      rcases o.2 with x | ⟨x0, x1, x2⟩
      · exact absurd x q3
      refine Ok.ift x1 ?_
      have hw : ¬ e < s + (if e - s < A 6 p then e - s else A 6 p) ∧ ¬ s + (if e - s < A 6 p then e - s else A 6 p) < 0 := by
        exact wlem e s (A 6 p) h0 q2 he x2
      have s0 : 0 ≤ s.toInt := nn_i h0
      exact ih.2 s g p _ _ _ s A h0 g0 q x0 x1 hw.1 hw.2 h0 hA (by omega) (by omega)
    · rw [lp_fillFrame_86]
      have es := succ_toInt g1
      have nxt : Ok (lp_fillFrame n 14 j f e (s + w) (g + 1) 0 0 0 0 0 F (ups A 6 (ups (A 6) p (A 6 p - w)))) (K6 A) := by
        refine (ih.1 (s + w) (g + 1) 0 0 0 0 0 _ w2 w1 (by grind) (by grind) (fun i i0 i1 => by simpa [ups] using hA i i0 i1) (by omega)).mono fun r q j j4 j5 j6 => ?_
        rw [q j j4 j5 j6]; simp [ups, j6]
      refine Ok.ite (fun _ => Ok.ite (fun q => Ok.ift t0 ?_) fun _ => Ok.ift ⟨p0, p1⟩ nxt) fun _ => Ok.ift ⟨p0, p1⟩ nxt
      have e3 := succ_toInt q
      have q' := lt_i.mp q
      refine (ih.2 s g p w tk jb (t + 1) _ h0 g0 g1 p0 p1 w1 w2 (by grind) (fun i i0 i1 => by simpa [ups] using hA i i0 i1) (by omega) (by omega)).mono fun r q j j4 j5 j6 => ?_
      rw [q j j4 j5 j6]; simp [ups, j4, j5]
theorem c_mul : ∀ (j : Fin 60) (f : Fin 8), (¬ Int32.ofNat j.1 * Int32.ofNat (f.1 + 1) < 0) ∧ (¬ (Int32.ofNat j.1 + 1) * Int32.ofNat (f.1 + 1) < Int32.ofNat j.1 * Int32.ofNat (f.1 + 1)) ∧ ¬ 1000 < (Int32.ofNat j.1 + 1) * Int32.ofNat (f.1 + 1) := by decide +kernel
theorem c_div : ∀ (h : Fin 60) (f : Fin 8), ¬ 60 < Int32.ofNat (h.1 + 1) / Int32.ofNat (f.1 + 1) ∧ ¬ Int32.ofNat (h.1 + 1) / Int32.ofNat (f.1 + 1) < 0 := by decide +kernel
theorem o_ff (F : Nat → Int32) (f2 : ¬ F 2 < 0 ∧ ¬ 4 < F 2) (A : Nat → Int32 → Int32) (hA : ∀ i : Int32, ¬ i < 0 → i < F 2 → ¬ A 0 i < 1) (j f : Int32) (j0 : ¬ j < 0) (j1 : j < 60) (f0 : ¬ f < 1) (f1 : ¬ 8 < f) : Ok (en_fillFrame F A j f) (K6 A) := by
  rw [een_fillFrame]
  obtain ⟨x, rfl⟩ := as_fin0 60 (by decide) j j0 j1
  obtain ⟨y, rfl⟩ := as_fin 8 (by decide) f f0 f1
  have c := c_mul x y
  exact (l_ff F f2 _ _ _ f1 c.2.2 _).1 _ 0 0 0 0 0 0 A c.1 c.2.1 (by decide) (by grind) hA (by decide)
theorem l_fm (F : Nat → Int32) (f2 : ¬ F 2 < 0 ∧ ¬ 4 < F 2) (A : Nat → Int32 → Int32) (hA : ∀ i : Int32, ¬ i < 0 → i < F 2 → ¬ A 0 i < 1) : ∀ (n : Nat), (∀ (a b v c d : Int32), ¬ v < 0 → ¬ F 2 < v → 140 * (4 - v.toInt) + 2 ≤ (n : Int) → Ok (lp_findMiss n 6 a b v c d F A) (fun _ => True)) ∧ (∀ (a b v c d : Int32), ¬ v < 0 → v < F 2 → ¬ d < 0 → ¬ 128 < d → 140 * (3 - v.toInt) + 3 + (130 - d.toInt) ≤ (n : Int) → Ok (lp_findMiss n 30 a b v c d F A) (fun _ => True)) := by
  intro n
  have z4 : (4 : Int32).toInt = 4 := by decide
  have z128 : (128 : Int32).toInt = 128 := by decide
  induction n with
  | zero =>
    refine ⟨fun a b v c d h0 h1 h2 => ?_, fun a b v c d h0 h1 k0 k1 h2 => ?_⟩
    · exfalso; rw [lt_i] at h0 h1; have a := f2.2; rw [lt_i] at a; omega
    · exfalso; rw [lt_i] at h0 h1 k0 k1; have a := f2.2; rw [lt_i] at a; omega
  | succ n ih =>
    refine ⟨fun a b v c d h0 h1 h2 => ?_, fun a b v c d h0 h1 k0 k1 h2 => ?_⟩
    · rw [lp_findMiss_6]
      refine Ok.ite (fun q => Ok.ift ⟨h0, by grind, ?_⟩ (ih.2 a b v _ 0 h0 q (by decide) (by decide) (by rw [z0]; omega))) fun _ => Ok.ret trivial
      have := hA v h0 q
      intro z; rw [z] at this; exact this (by decide)
    · rw [lp_findMiss_30]
      have es := succ_toInt h1
      have nxt : Ok (lp_findMiss n 6 a b (v + 1) 0 0 F A) (fun _ => True) := ih.1 a b (v + 1) 0 0 (by grind) (by grind) (by rw [lt_i] at k1; omega)
      refine Ok.ite (fun _ => Ok.ite (fun q => ?_) fun _ => nxt) fun _ => nxt
      have e3 := succ_toInt q
      exact Ok.ift ⟨by grind, by grind, fun _ => h0, fun _ => by grind⟩ (ih.2 _ _ v c (d + 1) h0 h1 (by grind) (by grind) (by omega))
theorem o_fm (F : Nat → Int32) (f2 : ¬ F 2 < 0 ∧ ¬ 4 < F 2) (A : Nat → Int32 → Int32) (hA : ∀ i : Int32, ¬ i < 0 → i < F 2 → ¬ A 0 i < 1) : Ok (en_findMiss F A) (fun _ => True) := by
  rw [een_findMiss]
  exact (l_fm F f2 A hA _).1 _ _ 0 0 0 (by decide) (by grind) (by decide)
theorem b_end {m : Int} (hm : 0 ≤ m) {F : Nat → Int32} {A : Nat → Int32 → Int32} (h : Iv m F A) (hp : 0 < F 2) {F' : Nat → Int32} {A' : Nat → Int32 → Int32} (e : F' = ups (ups F 7 0) 8 0) (a : ∀ j, j ≠ 3 → A' j = A j) (z : ∀ k : Int32, ¬ k < 0 → k < 8 → A' 3 k = 0) (x y w : Int32) : Iv m (ups (ups (ups F' 4 x) 5 y) 6 w) A' := by
  subst e
  have f3 := h.f3 hp
  refine ⟨by simpa [ups] using h.f0, by simpa [ups] using h.f1, by simpa [ups] using h.f2, fun c => ?_, fun _ => ?_, fun i i0 i1 => ?_, fun k k0 k1 => ?_⟩
  · have : F 2 = 0 := by simpa [ups] using c
    rw [this] at hp; exact absurd hp (by decide)
  · simp [ups]; grind
  · rw [a 0 (by decide)]; exact h.a0 i i0 (by simpa [ups] using i1)
  · rw [z k k0 k1, z0]; exact ⟨Int.le_refl _, hm⟩
theorem l_b2 {m : Int} (hm : 0 ≤ m) (F : Nat → Int32) (hp : 0 < F 2) (f c : Int32) (f0 : ¬ f < 1) (f1 : ¬ 8 < f) (c1 : ¬ 60 < c) : ∀ (n : Nat) (v : Int32) (A : Nat → Int32 → Int32), Iv m F A → ¬ v < 0 → ¬ c < v → c.toInt < v.toInt + (n : Int) → Ok (lp_build n 74 f c v F A) (I3 m) := by
  intro n
  induction n with
  | zero => exact fun v A _ _ h1 h2 => (fu_z h1 h2).elim
  | succ n ih =>
    intro v A h h0 h1 h2
    rw [lp_build_74]
    refine Ok.ite (fun q => ?_) fun _ => ?_
    · have s := (o_ff F h.f2 A h.a0 v f h0 (by grind) f0 f1).R (eR_fillFrame F A v f)
      have s2 : ∀ j, j ≠ 4 → j ≠ 5 → j ≠ 6 → (R_fillFrame F A v f).2 j = A j := s.2
      refine Ok.ift s.1 (ih (v + 1) _ ?_ (by grind) (by grind) (fu_nxt q h2))
      exact h.w (by rw [s2 0 (by decide) (by decide) (by decide)]; exact h.a0) (by rw [s2 3 (by decide) (by decide) (by decide)]; exact h.a3)
    · have s := (o_fm F h.f2 A h.a0).S
      have t := (o_rd F A).R (eR_resetDispatcher F A)
      obtain ⟨t1, t2, t3, t4⟩ := t
      exact Ok.ift ⟨s, t1⟩ (Ok.ite (fun _ => Ok.ret (b_end hm h hp t2 t3 t4 _ _ _)) fun _ => Ok.ret (b_end hm h hp t2 t3 t4 _ _ _))
theorem l_b1 {m : Int} (hm : 0 ≤ m) (F : Nat → Int32) (hp : 0 < F 2) (f : Int32) (f0 : ¬ f < 1) (f1 : ¬ 8 < f) : ∀ (n : Nat) (v w : Int32) (A : Nat → Int32 → Int32), Iv m F A → ¬ v < 0 → ¬ 128 < v → (128 : Int32).toInt + 100 < v.toInt + (n : Int) → Ok (lp_build n 38 f v w F A) (I3 m) := by
  intro n
  induction n with
  | zero => exact fun v w A _ _ h1 h2 => (fu_z h1 (by omega)).elim
  | succ n ih =>
    intro v w A h h0 h1 h2
    rw [lp_build_38]
    refine Ok.ite (fun q => Ok.ift h0 ?_) fun _ => Ok.ift ?_ ?_
    · have es := succ_toInt q
      refine ih (v + 1) 0 _ ?_ (by grind) (by grind) (by omega)
      exact h.w (by simpa [ups] using h.a0) (by simpa [ups] using h.a3)
    · intro z; rw [z] at f0; exact f0 (by decide)
    · have f3 := h.f3 hp
      have z128 : (128 : Int32).toInt = 128 := by decide
      have z60 : (60 : Int32).toInt = 60 := by decide
      rw [lt_i] at h1
      obtain ⟨x, hx⟩ := as_fin 60 (by decide) (F 3) f3.1 f3.2.1
      obtain ⟨y, rfl⟩ := as_fin 8 (by decide) f f0 f1
      have c := c_div x y
      rw [hx]
      have c1 := c.1
      rw [lt_i] at c1
      exact l_b2 hm F hp _ _ f0 f1 c.1 n 0 A h (by decide) (by grind) (by rw [z0]; omega)
theorem o_bd {m : Int} (hm : 0 ≤ m) {F : Nat → Int32} {A : Nat → Int32 → Int32} (h : Iv m F A) (f : Int32) (f1 : ¬ 8 < f) : Ok (en_build F A f) (I3 m) := by
  rw [een_build]
  refine Ok.ite (fun _ => Ok.ret h) fun q => ?_
  have f2 := h.f2
  have d := (o_dv F f).R (eR_dividesHyper F f)
  refine Ok.ift d.1 (Ok.ite (fun _ => Ok.ret h) fun q2 => Ok.ift (o_dk h f).S (Ok.ite (fun _ => Ok.ret h) fun _ => ?_))
  have s := (o_ij h).R (eR_initJobs F A)
  have s2 : ∀ j, j ≠ 4 → j ≠ 5 → j ≠ 6 → (R_initJobs F A).2 j = A j := s.2
  refine Ok.ift s.1 (l_b1 hm F (by grind) f (d.2.1 q2).1 f1 _ 0 0 _ ?_ (by decide) (by decide) (by decide))
  exact h.w (by rw [s2 0 (by decide) (by decide) (by decide)]; exact h.a0) (by rw [s2 3 (by decide) (by decide) (by decide)]; exact h.a3)
theorem bd_no {F : Nat → Int32} {A : Nat → Int32 → Int32} (f : Int32) (h2 : ¬ F 2 = 0) (h : F 3 < f) : en_build F A f = some (-5, F, A) := by
  have d := (o_dv F f).R (eR_dividesHyper F f)
  rw [een_build, if_neg h2, if_pos d.1, if_pos (d.2.2 h)]
theorem ups_ups {α β : Type} [DecidableEq α] (f : α → β) (i : α) (x y : β) : ups (ups f i x) i y = ups f i y := by
  funext j; unfold ups; split <;> rfl
def nx (h p : Int32) : Int32 := if p + 1 < h then p + 1 else 0
def tk (A : Nat → Int32 → Int32) (p : Int32) : Nat → Int32 → Int32 := if A 4 p < 0 then A else if A 4 p < 8 then ups A 3 (ups (A 3) (A 4 p) (A 3 (A 4 p) + 1)) else A
theorem run_st (n : Nat) (v2 v3 : Int32) (F : Nat → Int32) (A : Nat → Int32 → Int32) (q : v3 < v2) (h0 : ¬ F 8 < 0) (h1 : F 8 < F 3) (h2 : ¬ 60 < F 3) : lp_run (n + 1) 39 v2 v3 F A = lp_run n 39 v2 (v3 + 1) (ups (ups F 7 (F 7 + 1)) 8 (nx (F 3) (F 8))) (tk A (F 8)) := by
  rw [lp_run_39, if_pos q, if_neg h0, if_pos h1, if_pos (show F 8 < 128 by grind)]
  unfold nx tk
  by_cases a : A 4 (F 8) < 0
  · rw [if_pos a, if_pos a]
    by_cases b : F 8 + 1 < F 3
    · rw [if_pos b, if_pos b]
    · rw [if_neg b, if_neg b, ups_ups]
  · rw [if_neg a, if_neg a]
    by_cases c : A 4 (F 8) < 8
    · rw [if_pos c, if_pos c]
      by_cases b : F 8 + 1 < F 3
      · rw [if_pos b, if_pos b]
      · rw [if_neg b, if_neg b, ups_ups]
    · rw [if_neg c, if_neg c]
      by_cases b : F 8 + 1 < F 3
      · rw [if_pos b, if_pos b]
      · rw [if_neg b, if_neg b, ups_ups]
def sh (x : Int64) (k : Int32) : Int64 := x <<< (((16 : Int32) * k).toInt64 &&& 63)
theorem sh_add (x y : Int64) (k : Int32) : sh (x + y) k = sh x k + sh y k := by
  unfold sh
  apply Int64.toBitVec_inj.mp
  rw [Int64.toBitVec_add, Int64.toBitVec_shiftLeft, Int64.toBitVec_shiftLeft, Int64.toBitVec_shiftLeft, Int64.toBitVec_add]
  exact BitVec.shiftLeft_add_distrib ..
theorem i64_succ (a : Int32) (h : a.toInt < 2000000000) : (a + 1).toInt64 = a.toInt64 + 1 := by
  apply Int64.toInt_inj.mp
  have z : (1 : Int32).toInt = 1 := by decide
  have z2 : (1 : Int64).toInt = 1 := by decide
  have l := a.le_toInt
  rw [Int32.toInt_toInt64, Int64.toInt_add, Int32.toInt_toInt64, z2, add_toInt (by omega) (by omega), z, Int.bmod_eq_of_le (by omega) (by omega)]
def RS (c : Int32) (f : Int32 → Int32) : Int64 := 0 + sh (f 0).toInt64 0 + (if 1 < c then sh (f 1).toInt64 1 else 0) + (if 2 < c then sh (f 2).toInt64 2 else 0) + (if 3 < c then sh (f 3).toInt64 3 else 0)
def gw (c : Int32) (T : Int32 → Int32) (p : Int32) : Int64 := if T p < 0 then 0 else if T p < c then sh 1 (T p) else 0
theorem RS_inc (c : Int32) (f : Int32 → Int32) (k : Int32) (h0 : ¬ k < 0) (hc : ¬ c < 1) (hc4 : ¬ 4 < c) (hb : (f k).toInt < 2000000000) : RS c (ups f k (f k + 1)) = RS c f + (if k < c then sh 1 k else 0) := by
  have e : sh (f k + 1).toInt64 k = sh (f k).toInt64 k + sh 1 k := by rw [i64_succ _ hb, sh_add]
  unfold RS
  by_cases k0 : k = 0
  · subst k0
    rw [if_pos (show (0 : Int32) < c by grind)]
    simp only [ups_at, ups_ne _ _ (show (1 : Int32) ≠ 0 by decide), ups_ne _ _ (show (2 : Int32) ≠ 0 by decide), ups_ne _ _ (show (3 : Int32) ≠ 0 by decide), e]
    grind
  by_cases k1 : k = 1
  · subst k1
    simp only [ups_at, ups_ne _ _ (show (0 : Int32) ≠ 1 by decide), ups_ne _ _ (show (2 : Int32) ≠ 1 by decide), ups_ne _ _ (show (3 : Int32) ≠ 1 by decide), e]
    by_cases q : (1 : Int32) < c
    · simp only [if_pos q]; grind
    · simp only [if_neg q]; grind
  by_cases k2 : k = 2
  · subst k2
    simp only [ups_at, ups_ne _ _ (show (0 : Int32) ≠ 2 by decide), ups_ne _ _ (show (1 : Int32) ≠ 2 by decide), ups_ne _ _ (show (3 : Int32) ≠ 2 by decide), e]
    by_cases q : (2 : Int32) < c
    · simp only [if_pos q]; grind
    · simp only [if_neg q]; grind
  by_cases k3 : k = 3
  · subst k3
    simp only [ups_at, ups_ne _ _ (show (0 : Int32) ≠ 3 by decide), ups_ne _ _ (show (1 : Int32) ≠ 3 by decide), ups_ne _ _ (show (2 : Int32) ≠ 3 by decide), e]
    by_cases q : (3 : Int32) < c
    · simp only [if_pos q]; grind
    · simp only [if_neg q]; grind
  rw [if_neg (show ¬ k < c by grind), ups_ne _ _ (Ne.symm k0), ups_ne _ _ (Ne.symm k1), ups_ne _ _ (Ne.symm k2), ups_ne _ _ (Ne.symm k3), Int64.add_zero]
def sm (g : Int32 → Int64) (h : Int32) : Nat → Int32 → Int64
  | 0, _ => 0
  | n + 1, p => g p + sm g h n (nx h p)
theorem tk_ne (A : Nat → Int32 → Int32) (p : Int32) (j : Nat) (h : j ≠ 3) : tk A p j = A j := by
  unfold tk; split
  · rfl
  · split
    · simp [ups, h]
    · rfl
theorem RS_tk (c : Int32) (A : Nat → Int32 → Int32) (p : Int32) (hc : ¬ c < 1) (hc4 : ¬ 4 < c) (m : Int) (hm : m < 1000000000) (hA : ∀ k : Int32, ¬ k < 0 → k < 8 → 0 ≤ (A 3 k).toInt ∧ (A 3 k).toInt ≤ m) : RS c (tk A p 3) = RS c (A 3) + gw c (A 4) p ∧ ∀ k : Int32, ¬ k < 0 → k < 8 → 0 ≤ (tk A p 3 k).toInt ∧ (tk A p 3 k).toInt ≤ m + 1 := by
  have z : (1 : Int32).toInt = 1 := by decide
  unfold tk gw
  by_cases a : A 4 p < 0
  · rw [if_pos a, if_pos a, Int64.add_zero]
    exact ⟨rfl, fun k k0 k1 => ⟨(hA k k0 k1).1, by have := (hA k k0 k1).2; omega⟩⟩
  rw [if_neg a, if_neg a]
  by_cases b : A 4 p < 8
  · rw [if_pos b, ups_at]
    have q := hA _ a b
    refine ⟨RS_inc c (A 3) (A 4 p) a hc hc4 (by omega), fun k k0 k1 => ?_⟩
    by_cases e : k = A 4 p
    · subst e; rw [ups_at, add_toInt (by omega) (by omega), z]; omega
    · rw [ups_ne _ _ e]; have := hA k k0 k1; omega
  · rw [if_neg b, if_neg (show ¬ A 4 p < c by grind), Int64.add_zero]
    exact ⟨rfl, fun k k0 k1 => ⟨(hA k k0 k1).1, by have := (hA k k0 k1).2; omega⟩⟩
theorem l_run (c v2 h : Int32) (hc : ¬ c < 1) (hc4 : ¬ 4 < c) (hh : ¬ 60 < h) (T : Int32 → Int32) : ∀ (k n : Nat) (v3 : Int32) (F : Nat → Int32) (A : Nat → Int32 → Int32) (m : Int), F 3 = h → A 4 = T → v3.toInt + k = v2.toInt → k < n → ¬ F 8 < 0 → F 8 < F 3 → m + k < 1000000000 → (∀ k : Int32, ¬ k < 0 → k < 8 → 0 ≤ (A 3 k).toInt ∧ (A 3 k).toInt ≤ m) →
    ∃ F' A', lp_run n 39 v2 v3 F A = some (v2, F', A') ∧ (∀ j, j ≠ 7 → j ≠ 8 → F' j = F j) ∧ ¬ F' 8 < 0 ∧ F' 8 < F 3 ∧ F' 7 = F 7 + (v2 - v3) ∧ (∀ j, j ≠ 3 → A' j = A j) ∧ (∀ k' : Int32, ¬ k' < 0 → k' < 8 → 0 ≤ (A' 3 k').toInt ∧ (A' 3 k').toInt ≤ m + k) ∧ RS c (A' 3) = RS c (A 3) + sm (gw c T) h k (F 8) := by
  intro k
  induction k with
  | zero =>
    intro n v3 F A m e3 eT hk hn h0 h1 hm hA
    obtain ⟨n, rfl⟩ : ∃ n', n = n' + 1 := ⟨n - 1, by omega⟩
    have e : v3 = v2 := Int32.toInt_inj.mp (by omega)
    subst e
    refine ⟨F, A, ?_, fun _ _ _ => rfl, h0, h1, by grind, fun _ _ => rfl, by simpa using hA, by rw [sm, Int64.add_zero]⟩
    rw [lp_run_39, if_neg (by rw [lt_i]; omega)]
  | succ k ih =>
    intro n v3 F A m e3 eT hk hn h0 h1 hm hA
    obtain ⟨n, rfl⟩ : ∃ n', n = n' + 1 := ⟨n - 1, by omega⟩
    have q : v3 < v2 := lt_i.mpr (by omega)
    have es := succ_toInt q
    have t := RS_tk c A (F 8) hc hc4 m (by omega) hA
    have n0 : ¬ nx (F 3) (F 8) < 0 ∧ nx (F 3) (F 8) < F 3 := by unfold nx; split <;> grind
    obtain ⟨F', A', r1, r2, r3, r4, r5, r6, r7, r8⟩ := ih n (v3 + 1) (ups (ups F 7 (F 7 + 1)) 8 (nx (F 3) (F 8))) (tk A (F 8)) (m + 1) (by simpa [ups] using e3) (by rw [tk_ne _ _ _ (by decide), eT]) (by omega) (by omega) (by simpa [ups] using n0.1) (by simpa [ups] using n0.2) (by omega) t.2
    refine ⟨F', A', ?_, fun j j7 j8 => ?_, r3, ?_, ?_, fun j hj => ?_, fun k' a b => ?_, ?_⟩
    · rw [run_st n v2 v3 F A q h0 h1 (by rw [e3]; exact hh)]; exact r1
    · rw [r2 j j7 j8]; simp [ups, j7, j8]
    · simpa [ups] using r4
    · rw [r5]; simp only [ups]; grind
    · rw [r6 j hj, tk_ne _ _ _ hj]
    · have := r7 k' a b; omega
    · rw [r8, t.1, eT, sm, Int64.add_assoc, e3]; simp [ups]
theorem iv_run {m m' : Int} {F F' : Nat → Int32} {A A' : Nat → Int32 → Int32} (h : Iv m F A) (r2 : ∀ j, j ≠ 7 → j ≠ 8 → F' j = F j) (r3 : ¬ F' 8 < 0) (r4 : F' 8 < F 3) (r6 : ∀ j, j ≠ 3 → A' j = A j) (r7 : ∀ k' : Int32, ¬ k' < 0 → k' < 8 → 0 ≤ (A' 3 k').toInt ∧ (A' 3 k').toInt ≤ m') : Iv m' F' A' := by
  have e0 := r2 0 (by decide) (by decide)
  have e1 := r2 1 (by decide) (by decide)
  have e2 := r2 2 (by decide) (by decide)
  have e3 := r2 3 (by decide) (by decide)
  have e4 := r2 4 (by decide) (by decide)
  refine ⟨by rw [e0]; exact h.f0, by rw [e1]; exact h.f1, by rw [e2]; exact h.f2, by rw [e2, e4]; exact h.f4, ?_, ?_, r7⟩
  · intro q; rw [e2] at q; rw [e3]; have := h.f3 q; exact ⟨this.1, this.2.1, r3, r4⟩
  · rw [e2, r6 0 (by decide)]; exact h.a0
theorem run_full {m : Int} (hm : m < 100000) {F : Nat → Int32} {A : Nat → Int32 → Int32} (h : Iv m F A) (c s : Int32) (hc : ¬ c < 1) (hc4 : ¬ 4 < c) (s1 : ¬ s < 1) (hs : ¬ 61 < s) (f4 : ¬ F 4 = 0) :
    ∃ F' A', en_run F A s = some (s, F', A') ∧ Iv (m + 61) F' A' ∧ (∀ j, j ≠ 7 → j ≠ 8 → F' j = F j) ∧ F' 7 = F 7 + s ∧ (∀ j, j ≠ 3 → A' j = A j) ∧ RS c (A' 3) = RS c (A 3) + sm (gw c (A 4)) (F 3) s.toInt.toNat (F 8) := by
  have f2 := h.f2
  have n2 : ¬ F 2 = 0 := fun q => f4 (h.f4 q)
  have f3 := h.f3 (by grind)
  have s1' := s1
  have hs' := hs
  rw [lt_i] at s1' hs'
  have z1 : (1 : Int32).toInt = 1 := by decide
  have z61 : (61 : Int32).toInt = 61 := by decide
  obtain ⟨F', A', r1, r2, r3, r4, r5, r6, r7, r8⟩ := l_run c s (F 3) hc hc4 f3.2.1 (A 4) s.toInt.toNat 5000 0 F A m rfl rfl (by rw [z0]; omega) (by omega) f3.2.2.1 f3.2.2.2 (by omega) h.a3
  refine ⟨F', A', ?_, iv_run h r2 r3 r4 r6 fun k a b => ⟨(r7 k a b).1, by have := (r7 k a b).2; omega⟩, r2, by rw [r5]; grind, r6, r8⟩
  rw [een_run, if_neg f4, if_neg s1, if_neg f3.1, if_pos (show s < 4096 by grind)]; exact r1
theorem o_run {m : Int} (hm : m < 100000) {F : Nat → Int32} {A : Nat → Int32 → Int32} (h : Iv m F A) (s : Int32) (hs : ¬ 61 < s) : Ok (en_run F A s) (I3 (m + 61)) := by
  by_cases f4 : F 4 = 0
  · rw [een_run, if_pos f4]; exact Ok.ret (h.up (by omega))
  by_cases s1 : s < 1
  · rw [een_run, if_neg f4, if_pos s1]; exact Ok.ret (h.up (by omega))
  obtain ⟨F', A', r1, r2, _⟩ := run_full hm h 1 s (by decide) (by decide) s1 hs f4
  exact ⟨_, r1, r2⟩
theorem vt_ok {F : Nat → Int32} (f4 : ¬ F 4 = 0) (h3 : ¬ 60 < F 3) (t : Int32) (h0 : ¬ t < 0) (h1 : t < F 3) : f_validTick F t = 1 := by
  rw [e_validTick, if_neg f4, if_neg h0, if_pos h1, if_pos (show t < 128 by grind)]; decide
theorem vt_in {F : Nat → Int32} (t : Int32) (h : ¬ f_validTick F t = 0) : ¬ t < 0 ∧ t < 128 := by
  rw [e_validTick] at h
  by_cases a : F 4 = 0
  · rw [if_pos a] at h; exact absurd nar0 h
  rw [if_neg a] at h
  by_cases b : t < 0
  · rw [if_pos b] at h; exact absurd nar0 h
  rw [if_neg b] at h
  by_cases c : t < F 3
  · rw [if_pos c] at h
    by_cases d : t < 128
    · exact ⟨b, d⟩
    · rw [if_neg d] at h; exact absurd nar0 h
  · rw [if_neg c] at h; exact absurd nar0 h
theorem o_tt (F : Nat → Int32) (A : Nat → Int32 → Int32) (t : Int32) : Ok (en_getTickTask F A t) (fun _ => True) := by
  rw [een_getTickTask]; exact Ok.ite (fun _ => Ok.ret trivial) fun q => Ok.ift (vt_in t q) (Ok.ret trivial)
theorem o_tj (F : Nat → Int32) (A : Nat → Int32 → Int32) (t : Int32) : Ok (en_getTickJob F A t) (fun _ => True) := by
  rw [een_getTickJob]; exact Ok.ite (fun _ => Ok.ret trivial) fun q => Ok.ift (vt_in t q) (Ok.ret trivial)
theorem l_ts (F : Nat → Int32) (A : Nat → Int32 → Int32) (h : Int32) : ∀ (n : Nat) (w : Int64) (v : Int32), ¬ v < -1 → ¬ 130 < v → (130 : Int32).toInt < v.toInt + (n : Int) → Ok (lp_L_tableSum n 5 h w v F A) (fun _ => True) := by
  intro n
  induction n with
  | zero => exact fun w v _ h1 h2 => (fu_z h1 h2).elim
  | succ n ih =>
    intro w v h0 h1 h2
    rw [lp_L_tableSum_5]
    exact Ok.ite (fun _ => Ok.ret trivial) fun _ => Ok.ite (fun q => Ok.ift ⟨(o_tt F A v).S, (o_tj F A v).S⟩ (ih _ (v + 1) (by grind) (by grind) (fu_nxt q h2))) fun _ => Ok.ret trivial
theorem o_ts (F : Nat → Int32) (A : Nat → Int32 → Int32) (h : Int32) : Ok (en_L_tableSum F A h) (fun _ => True) := by
  rw [een_L_tableSum]; exact l_ts F A h 1000 0 (-1) (by decide) (by decide) (by decide)
theorem g_vt {F F' : Nat → Int32} (e3 : F' 3 = F 3) (e4 : F' 4 = F 4) (t : Int32) : f_validTick F' t = f_validTick F t := by
  simp only [e_validTick, e3, e4]
theorem g_ts {F F' : Nat → Int32} {A A' : Nat → Int32 → Int32} (e3 : F' 3 = F 3) (e4 : F' 4 = F 4) (a4 : A' 4 = A 4) (a5 : A' 5 = A 5) (h : Int32) : ∀ (n : Nat) (w : Int64) (v : Int32), lp_L_tableSum n 5 h w v F' A' = lp_L_tableSum n 5 h w v F A := by
  intro n
  induction n with
  | zero => intro w v; rw [lp_L_tableSum_z, lp_L_tableSum_z]
  | succ n ih => intro w v; simp only [lp_L_tableSum_5, een_getTickTask, eR_getTickTask, een_getTickJob, eR_getTickJob, g_vt e3 e4, a4, a5, ih]
theorem ge_ts {F F' : Nat → Int32} {A A' : Nat → Int32 → Int32} (e3 : F' 3 = F 3) (e4 : F' 4 = F 4) (a4 : A' 4 = A 4) (a5 : A' 5 = A 5) (h : Int32) : en_L_tableSum F' A' h = en_L_tableSum F A h := by
  rw [een_L_tableSum, een_L_tableSum, g_ts e3 e4 a4 a5]
theorem e_rt (F : Nat → Int32) (A : Nat → Int32 → Int32) (t : Int32) (h0 : ¬ t < 0) (h1 : t < F 2) (h2 : t < 8) : en_getRunTicks F A t = some (A 3 t) := by
  rw [een_getRunTicks, if_neg h0, if_pos h1, if_pos h2]
theorem rs_st (n : Nat) (c : Int32) (w : Int64) (v : Int32) (F : Nat → Int32) (A : Nat → Int32 → Int32) (e : F 2 = c) (h0 : ¬ v < 0) (h1 : v < c) (h2 : v < 8) : lp_L_runSum (n + 1) 5 c w v F A = lp_L_runSum n 5 c (w + sh (A 3 v).toInt64 v) (v + 1) F A := by
  have k := e_rt F A v h0 (by rw [e]; exact h1) h2
  rw [lp_L_runSum_5, if_pos h1, if_pos h2, r_of (eR_getRunTicks F A v) k, k, ifS]; rfl
theorem e_rs {m : Int} {F : Nat → Int32} {A : Nat → Int32 → Int32} (h : Iv m F A) (c : Int32) (e : F 2 = c) (hc : ¬ c < 1) : en_L_runSum F A c = some (RS c (A 3)) := by
  have f2 := h.f2
  rw [e] at f2
  have cs : c = 1 ∨ c = 2 ∨ c = 3 ∨ c = 4 := by grind
  rw [een_L_runSum]
  unfold RS
  rcases cs with rfl | rfl | rfl | rfl
  · rw [show (1000 : Nat) = 998 + 1 + 1 from rfl, rs_st _ _ _ _ F A e (by decide) (by decide) (by decide), lp_L_runSum_5, if_neg (by decide), if_neg (by decide), if_neg (by decide), if_neg (by decide)]
    simp only [Int64.add_zero]
  · rw [show (1000 : Nat) = 997 + 1 + 1 + 1 from rfl, rs_st _ _ _ _ F A e (by decide) (by decide) (by decide), rs_st _ _ _ _ F A e (by decide) (by decide) (by decide), lp_L_runSum_5, if_neg (by decide), if_pos (by decide), if_neg (by decide), if_neg (by decide)]
    simp only [Int64.add_zero]; rfl
  · rw [show (1000 : Nat) = 996 + 1 + 1 + 1 + 1 from rfl, rs_st _ _ _ _ F A e (by decide) (by decide) (by decide), rs_st _ _ _ _ F A e (by decide) (by decide) (by decide), rs_st _ _ _ _ F A e (by decide) (by decide) (by decide), lp_L_runSum_5, if_neg (by decide), if_pos (by decide), if_pos (by decide), if_neg (by decide)]
    simp only [Int64.add_zero]; rfl
  · rw [show (1000 : Nat) = 995 + 1 + 1 + 1 + 1 + 1 from rfl, rs_st _ _ _ _ F A e (by decide) (by decide) (by decide), rs_st _ _ _ _ F A e (by decide) (by decide) (by decide), rs_st _ _ _ _ F A e (by decide) (by decide) (by decide), rs_st _ _ _ _ F A e (by decide) (by decide) (by decide), lp_L_runSum_5, if_neg (by decide), if_pos (by decide), if_pos (by decide), if_pos (by decide)]
    rfl
def su (g : Int32 → Int64) : Nat → Nat → Int64
  | _, 0 => 0
  | a, n + 1 => g (Int32.ofNat a) + su g (a + 1) n
theorem su_add (g : Int32 → Int64) : ∀ (n a k : Nat), su g a (n + k) = su g a n + su g (a + n) k := by
  intro n
  induction n with
  | zero => intro a k; rw [Nat.zero_add, su, Nat.add_zero, Int64.zero_add]
  | succ n ih => intro a k; rw [show n + 1 + k = (n + k) + 1 by omega, su, su, ih, show a + 1 + n = a + (n + 1) by omega, Int64.add_assoc]
theorem nx_lt (H a : Nat) (hH : H < 1000) (h : a + 1 < H) : nx (Int32.ofNat H) (Int32.ofNat a) = Int32.ofNat (a + 1) := by
  unfold nx
  rw [show Int32.ofNat a + 1 = Int32.ofNat (a + 1) from (Int32.ofNat_add a 1).symm, if_pos]
  rw [lt_i, toN _ (by omega), toN _ (by omega)]; omega
theorem nx_eq (H a : Nat) (hH : H < 1000) (h : a + 1 = H) : nx (Int32.ofNat H) (Int32.ofNat a) = 0 := by
  unfold nx
  rw [show Int32.ofNat a + 1 = Int32.ofNat (a + 1) from (Int32.ofNat_add a 1).symm, if_neg]
  rw [lt_i, toN _ (by omega), toN _ (by omega)]; omega
theorem sm_lt (g : Int32 → Int64) (H : Nat) (hH : H < 1000) : ∀ (n a : Nat), a + n ≤ H → sm g (Int32.ofNat H) n (Int32.ofNat a) = su g a n := by
  intro n
  induction n with
  | zero => intro a _; rfl
  | succ n ih =>
    intro a h
    rw [sm, su]
    cases n with
    | zero => rfl
    | succ n => rw [nx_lt H a hH (by omega), ih (a + 1) (by omega)]
theorem sm_rot (g : Int32 → Int64) (H : Nat) (hH : H < 1000) (b : Nat) : ∀ (d a : Nat), a + (d + 1) = H → sm g (Int32.ofNat H) (d + 1 + b) (Int32.ofNat a) = su g a (d + 1) + sm g (Int32.ofNat H) b 0 := by
  intro d
  induction d with
  | zero => intro a h; rw [show 0 + 1 + b = b + 1 by omega, sm, su, su, nx_eq H a hH (by omega), Int64.add_zero]
  | succ d ih => intro a h; rw [show d + 1 + 1 + b = (d + 1 + b) + 1 by omega, sm, su, nx_lt H a hH (by omega), ih (a + 1) (by omega), Int64.add_assoc]
theorem sm_all (g : Int32 → Int64) (H a : Nat) (hH : H < 1000) (h : a < H) : sm g (Int32.ofNat H) H (Int32.ofNat a) = su g 0 H := by
  have e := sm_rot g H hH a (H - a - 1) a (by omega)
  rw [show H - a - 1 + 1 + a = H by omega, show H - a - 1 + 1 = H - a by omega] at e
  rw [e, show (0 : Int32) = Int32.ofNat 0 from rfl, sm_lt g H hH a 0 (by omega), Int64.add_comm]
  have := su_add g a 0 (H - a)
  rw [show a + (H - a) = H by omega, Nat.zero_add] at this
  exact this.symm
theorem sm_tot (g : Int32 → Int64) (h p : Int32) (h1 : ¬ h < 1) (h2 : ¬ 60 < h) (p0 : ¬ p < 0) (p1 : p < h) : sm g h h.toInt.toNat p = su g 0 h.toInt.toNat := by
  rw [lt_i] at h1 h2 p0 p1
  have z1 : (1 : Int32).toInt = 1 := by decide
  have z60 : (60 : Int32).toInt = 60 := by decide
  have zz := z0
  have e : h = Int32.ofNat h.toInt.toNat := Int32.toInt_inj.mp (by rw [toN _ (by omega)]; omega)
  have e2 : p = Int32.ofNat p.toInt.toNat := Int32.toInt_inj.mp (by rw [toN _ (by omega)]; omega)
  have := sm_all g h.toInt.toNat p.toInt.toNat (by omega) (by omega)
  rw [← e, ← e2] at this
  exact this
theorem l_cs (F : Nat → Int32) (A : Nat → Int32 → Int32) (c : Int32) (H : Nat) (f4 : ¬ F 4 = 0) (hH : H ≤ 60) (e3 : F 3 = Int32.ofNat H) : ∀ (k n : Nat) (w : Int64) (t : Nat), t + k = H → k < n → lp_L_cycleSum n 5 c (Int32.ofNat H) w (Int32.ofNat t) F A = some (w + su (gw c (A 4)) t k) := by
  intro k
  induction k with
  | zero =>
    intro n w t h hn
    obtain ⟨n, rfl⟩ : ∃ n', n = n' + 1 := ⟨n - 1, by omega⟩
    rw [lp_L_cycleSum_5, if_neg (by rw [lt_i, toN _ (by omega), toN _ (by omega)]; omega), su, Int64.add_zero]
  | succ k ih =>
    intro n w t h hn
    obtain ⟨n, rfl⟩ : ∃ n', n = n' + 1 := ⟨n - 1, by omega⟩
    have a0 : ¬ Int32.ofNat t < 0 := by rw [lt_i, toN _ (by omega), z0]; omega
    have a1 : Int32.ofNat t < Int32.ofNat H := by rw [lt_i, toN _ (by omega), toN _ (by omega)]; omega
    have a2 : Int32.ofNat t < 128 := by rw [lt_i, toN _ (by omega)]; show (t : Int) < 128; omega
    have a3 : Int32.ofNat t < 129 := by rw [lt_i, toN _ (by omega)]; show (t : Int) < 129; omega
    have a4 : ¬ 60 < F 3 := by rw [e3, lt_i, toN _ (by omega)]; show ¬ (60 : Int) < H; omega
    have v := vt_ok f4 a4 (Int32.ofNat t) a0 (by rw [e3]; exact a1)
    have o : en_getTickTask F A (Int32.ofNat t) = some (A 4 (Int32.ofNat t)) := by
      rw [een_getTickTask, v, if_neg (by decide), if_pos ⟨a0, a2⟩]
    rw [lp_L_cycleSum_5, if_pos a1, if_pos a3, r_of (eR_getTickTask F A _) o, o, ifS, show Int32.ofNat t + 1 = Int32.ofNat (t + 1) from (Int32.ofNat_add t 1).symm, ih n _ (t + 1) (by omega) (by omega), su]
    unfold gw
    congr 1
    by_cases q : A 4 (Int32.ofNat t) < 0
    · rw [if_pos q, if_pos q, Int64.zero_add]
    · rw [if_neg q, if_neg q]
      by_cases q2 : A 4 (Int32.ofNat t) < c
      · rw [if_pos q2, if_pos q2, Int64.add_assoc]; rfl
      · rw [if_neg q2, if_neg q2, Int64.zero_add]
theorem e_cs (F : Nat → Int32) (A : Nat → Int32 → Int32) (c : Int32) (f4 : ¬ F 4 = 0) (h1 : ¬ F 3 < 1) (h2 : ¬ 60 < F 3) : en_L_cycleSum F A c (F 3) = some (su (gw c (A 4)) 0 (F 3).toInt.toNat) := by
  rw [lt_i] at h1 h2
  have z1 : (1 : Int32).toInt = 1 := by decide
  have z60 : (60 : Int32).toInt = 60 := by decide
  have e : F 3 = Int32.ofNat (F 3).toInt.toNat := Int32.toInt_inj.mp (by rw [toN _ (by omega)]; omega)
  have := l_cs F A c (F 3).toInt.toNat f4 (by omega) e (F 3).toInt.toNat 1000 0 0 (by omega) (by omega)
  rw [← e, Int64.zero_add] at this
  rw [een_L_cycleSum]; exact this
theorem and_rng (x m : Int32) (k : Nat) (hk : k < 31) (hm : m.toBitVec.toNat = 2 ^ k - 1) : 0 ≤ (x &&& m).toInt ∧ (x &&& m).toInt < ((2 ^ k : Nat) : Int) := by
  rw [and_mask x m k hk hm]
  have h5 : (0 : Int) < ((2 ^ k : Nat) : Int) := by have := Nat.two_pow_pos k; omega
  exact ⟨Int.emod_nonneg _ (Int.ne_of_gt h5), Int.emod_lt_of_pos _ h5⟩
theorem and7 (x : Int32) : ¬ 8 < (x &&& 7) + 1 := by
  have h := and_rng x 7 3 (by decide) (by decide)
  have z : (8 : Int32).toInt = 8 := by decide
  have z1 : (1 : Int32).toInt = 1 := by decide
  rw [lt_i, add_toInt (by omega) (by omega)]; omega
theorem and63 (x : Int32) : ¬ 61 < (x &&& 63) - 2 := by
  have h := and_rng x 63 6 (by decide) (by decide)
  have z : (61 : Int32).toInt = 61 := by decide
  have z1 : (2 : Int32).toInt = 2 := by decide
  rw [lt_i, Int32.toInt_sub, z1, z, Int.bmod_eq_of_le (by omega) (by omega)]; omega
theorem law9 (sl : Int32) (sv : Int32 → Int32) (hs : ¬ 260 < sl) : en_L_law sl sv = some 1 := by
  have main : ∀ (i : Int32) (s : (Nat → Int32) × (Nat → Int32 → Int32)), (¬ i < 0 ∧ ¬ 260 < i ∧ Iv (31 * i.toInt) s.1 s.2) → ∀ n : Nat, (264 - i.toInt) * 6 + 4 ≤ 4 * (n : Int) → lp_L_law n 13 sl sv i 0 0 0 0 0 0 0 0 s.1 s.2 = some 1 := by
    refine scan (fun i (s : (Nat → Int32) × (Nat → Int32 → Int32)) => ∀ n : Nat, (264 - i.toInt) * 6 + 4 ≤ 4 * (n : Int) → lp_L_law n 13 sl sv i 0 0 0 0 0 0 0 0 s.1 s.2 = some 1) (fun i s => ¬ i < 0 ∧ ¬ 260 < i ∧ Iv (31 * i.toInt) s.1 s.2) sl ?_
    rintro i ⟨F, A⟩ ⟨h0, h1, hI⟩ ih n hn
    dsimp only at hI hn ⊢
    have li := le_260 h1
    have l0 := nn_i h0
    obtain ⟨k, rfl⟩ : ∃ k, n = k + 6 := ⟨n - 6, by omega⟩
    rw [lp_L_law_13]
    by_cases q : i + 3 < sl
    rotate_left
    · rw [if_neg q]
    rw [if_pos q, if_pos (show i < 400 by grind), if_pos (by refine ⟨h0, ?_, ?_, ?_, ?_, ?_, ?_⟩ <;> grind)]
    have a := advS (b := 3) (c := 4) 3 (by decide) (by decide) (by decide) h0 h1 hs q
    have e4 : (i + 4).toInt = i.toInt + 4 := adv i sl 4 4 (by decide) (by decide) h0 h1
    have go : ∀ (m : Nat) F A, k ≤ m → Iv (31 * i.toInt + 122) F A → lp_L_law m 13 sl sv (i + 4) 0 0 0 0 0 0 0 0 F A = some 1 := by
      intro m F A hm h
      exact ih (i + 4) (F, A) a.1 a.2.1 ⟨a.2.2.1, a.2.2.2, h.up (by omega)⟩ m (by omega)
    have go1 : ∀ F A, Iv (31 * i.toInt + 61) F A → lp_L_law (k + 5) 140 sl sv i 0 0 0 0 0 0 0 0 F A = some 1 := by
      intro F A h
      rw [lp_L_law_140, if_pos ⟨h0, by grind⟩]
      by_cases c1 : sv i &&& 4 = 0
      · rw [if_pos c1]; exact go _ F A (by omega) (h.up (by omega))
      rw [if_neg c1]
      by_cases c2 : 0 < f_getFrame F
      rotate_left
      · rw [if_neg c2]; exact go _ F A (by omega) (h.up (by omega))
      rw [if_pos c2]
      have f4 : ¬ F 4 = 0 := by
        intro z; rw [e_getFrame, if_pos z] at c2; exact absurd c2 (by decide)
      have n2 : ¬ F 2 = 0 := fun z => f4 (h.f4 z)
      have f2 := h.f2
      have p2 : 0 < F 2 := by grind
      have f3 := h.f3 p2
      have eh : f_getHyperperiod F = F 3 := by rw [e_getHyperperiod, if_neg n2]
      have ec : f_getTaskCount F = F 2 := e_getTaskCount F
      rw [eh, ec, if_neg f3.1, if_neg f3.2.1, if_neg (show ¬ F 2 < 1 by grind), if_neg f2.2]
      have t1 := (o_ts F A (F 3)).S
      have t2 := e_rs h (F 2) rfl (by grind)
      have t3 := e_cs F A (F 2) f4 f3.1 f3.2.1
      have t4 := bd_no (A := A) (F 3 + 1) n2 (by grind)
      have t5 : (en_L_tableSum F A (F 3)) = some (R_L_tableSum F A (F 3)) := by
        obtain ⟨r, e⟩ := Option.isSome_iff_exists.mp t1
        rw [r_of (eR_L_tableSum F A (F 3)) e, e]
      generalize R_L_tableSum F A (F 3) = tb at t5 ⊢
      rw [r_of (eR_L_runSum F A _) t2, r_of (eR_L_cycleSum F A _ _) t3, r_of (eR_build F A _) t4, if_pos ⟨t1, by rw [t2]; rfl, by rw [t3]; rfl, by rw [t4]; rfl⟩]
      dsimp only
      rw [if_pos rfl]
      have t6 : en_addTask F A 0 1 1 = some (-1, F, A) := by rw [een_addTask, if_pos (by decide)]
      rw [lp_L_law_260, r_of (eR_addTask F A _ _ _) t6, t6, ifS]
      dsimp only
      rw [if_pos rfl]
      have t7 : en_run F A 0 = some (0, F, A) := by rw [een_run, if_neg f4, if_pos (by decide)]
      rw [lp_L_law_273, r_of (eR_run F A _) t7, t7, ifS]
      dsimp only
      rw [if_pos rfl]
      obtain ⟨F', A', r1, r2, r3, r4, r5, r6⟩ := run_full (by omega) h (F 2) (F 3) (by grind) f2.2 f3.1 (by grind) f4
      rw [sm_tot _ _ _ f3.1 f3.2.1 f3.2.2.1 f3.2.2.2] at r6
      rw [lp_L_law_283, r_of (eR_run F A _) r1, r1, ifS]
      dsimp only
      rw [if_pos rfl]
      have e2 := r3 2 (by decide) (by decide)
      have e3 := r3 3 (by decide) (by decide)
      have e4' := r3 4 (by decide) (by decide)
      have e5 := r3 5 (by decide) (by decide)
      have e6 := r3 6 (by decide) (by decide)
      have u5 : en_L_tableSum F' A' (F 3) = some tb := by
        rw [ge_ts e3 e4' (r5 4 (by decide)) (r5 5 (by decide))]; exact t5
      have u2 := e_rs r2 (F 2) e2 (by grind)
      rw [lp_L_law_296]
      rw [if_pos (show f_getFrame F' = f_getFrame F by simp only [e_getFrame, e4', e5]), if_pos (show f_getHyperperiod F' = F 3 by rw [e_getHyperperiod, e2, if_neg n2, e3]), if_pos (show f_getTaskCount F' = F 2 by rw [e_getTaskCount, e2]), if_pos (show f_getMiss F' = f_getMiss F by simp only [e_getMiss, e6]), if_pos (show f_getNow F' = f_getNow F + F 3 by simp only [e_getNow, r4])]
      rw [r_of (eR_L_tableSum F' A' _) u5, u5, ifS, if_pos (by rw [XT.cmpL]; simp), r_of (eR_L_runSum F' A' _) u2, u2, ifS, r6, if_pos (by rw [XT.cmpL]; simp)]
      exact go _ F' A' (by omega) (r2.up (by omega))
    by_cases c1 : 1 < sv i &&& 3
    · rw [if_pos c1]
      by_cases c2 : sv i &&& 3 = 2
      · rw [if_pos c2]
        have s := (o_bd (by omega) hI ((sv (i + 1) &&& 7) + 1) (and7 _)).R (eR_build _ _ _)
        rw [if_pos s.1]
        exact go1 _ _ (s.2.up (by omega))
      · rw [if_neg c2]
        have s := (o_run (by omega) hI ((sv (i + 1) &&& 63) - 2) (and63 _)).R (eR_run _ _ _)
        rw [if_pos s.1]
        exact go1 _ _ s.2
    · rw [if_neg c1]
      have s := (o_add (by omega) hI ((sv (i + 1) &&& 7) + 1) ((sv (i + 2) &&& 3) + 1) (((sv (i + 1) &&& 7) + 1) - (sv (i + 3) &&& 1)) (and7 _)).R (eR_addTask _ _ _ _ _)
      rw [if_pos s.1]
      exact go1 _ _ (s.2.up (by omega))
  have hi : Iv (31 * (0 : Int32).toInt) (F_init 4 60) (fun _ _ => 0) := by
    have f0 : F_init 4 60 0 = 4 := by rw [F_init_0, e_clamp]; decide
    have f1 : F_init 4 60 1 = 60 := by rw [F_init_1, e_clamp]; decide
    have f2 : F_init 4 60 2 = 0 := by rw [F_init_2]
    have f4 : F_init 4 60 4 = 0 := by rw [F_init_4]
    refine ⟨f0, f1, by rw [f2]; decide, fun _ => f4, fun q => ?_, fun i i0 i1 => ?_, fun k _ _ => ?_⟩
    · rw [f2] at q; exact absurd q (by decide)
    · rw [f2] at i1; exact absurd i1 i0
    · rw [z0]; exact ⟨Int.le_refl _, by decide⟩
  rw [een_L_law, show (1000 : Nat) = 999 + 1 from rfl, lp_L_law_11]
  exact main 0 (F_init 4 60, fun _ _ => 0) ⟨by decide, by decide, hi⟩ 999 (by decide)
theorem law_ok {l : Launch} {Z : State} {a0 : Array Value} (H : OK Z a0) (sl : Int32) (sv : Int32 → Int32) (q2 : ¬ sl < 0) (q3 : ¬ 260 < sl) : Wk l Z (MoL Z cdC "CyclicExecutiveL7" true) md_L_law 0 [.val (.ref 0), .unset, .unset, .unset, .unset, .unset, .unset, .unset, .unset, .unset, .unset, .unset, .unset, .unset, .unset, .unset, .unset, .unset, .unset] [] (sl, sv, []) 0 0 (fun v _ => v = some (.int (1 : Int32))) :=
  run_law H sl sv (law9 sl sv q3)
set_option maxRecDepth 65536 in
set_option maxHeartbeats 40000000 in
theorem comes_1 {Post : Tables → Env → Array Value → State → Outcome → State → Prop} (hpost : ∀ tb e args s v u, (limb_1_1.after args s (.returned v) u = true ∧ limb_1_2.after args s (.returned v) u = true ∧ True) → FrameEnd s (.returned v) u (Jvm.fieldLocs frame_1_writes args s ++ Jvm.arrayLocs frame_1_arrays args s ++ Jvm.staticLocs frame_1_statics s) room_1.cells room_1.slots → Post tb e args s (.returned v) u) :
    ArmFor flags0 classFile x code maxLocals ret World_1 tables_1 room_1 Calls_1 rest_1 Pre_1 Post := by
  intro l hfl _ _ p e ha hc hk s m args below hf hA hF happ hP
  obtain ⟨hcalls, hrest, hpre⟩ := hP
  obtain ⟨-, -, -, hnamed, -, -, -, hat⟩ := (Spec.applies_iff hf).mp happ
  obtain ⟨hg, hn⟩ := and_e (Cond.before_iff.mp (show (Jvm.Cond.and given_1 narrow_1).before args s = true from hpre))
  obtain ⟨h1, h2⟩ := and_e hg
  obtain ⟨w0, rfl⟩ : ∃ w0 : Value, args = #[w0] := by
    have hs : args.size = 1 := by simpa [Cond.value, given_1] using h1
    obtain ⟨L⟩ := args
    match L, hs with
    | [w0], _ => exact ⟨w0, rfl⟩
  have hw : OK s #[w0] := fun d (hd : d ∈ tables_1) => atoms_spec (ws := Jvm.Cond.code x code maxLocals ret :: tables_1) hat d (List.mem_cons_of_mem _ hd)
  obtain ⟨na, nl⟩ := and_e hn
  obtain ⟨sa, ea⟩ := arr_v na
  obtain rfl : w0 = .ref sa := Option.some.inj ea
  obtain ⟨-, hr2⟩ := and_e (Cond.before_iff.mp (show rest_1_c.before #[.ref sa] s = true from hrest))
  obtain ⟨sl, sv, q1, q2, q3, q4⟩ := script_at na hr2 nl
  have rel0 : relL s cdC true (s.heap.size, sa) (sl, sv, []) s.heap := ⟨fun _ => ⟨q1, q2, q4⟩, fun i x q => (by simp at q), (by simp)⟩
  obtain ⟨n, o, h1, h2, h3, v, L, rfl, ⟨w', hv, hrel, hfrm, N, hsz, hnr⟩, hq⟩ := (law_ok hw sl sv q2 q3).met (M := MoL s cdC "CyclicExecutiveL7" true) (l := l) pn_CyclicExecutiveL7 rfl (en := (s.heap.size, sa)) rel0 [.ref 0] rfl rfl tables_1 p e ha hc hk s m _ below hf ((Spec.applies_iff_loose hf).mp happ).1 ⟨rfl, State.Warmed39.refl s, rfl⟩ trivial
  subst hv
  exact ⟨n, _, h1, h2, h3, hpost _ _ _ _ _ _ ⟨Cond.after_iff.mpr rfl, Cond.after_iff.mpr (eq_i res_at (Term.int_eval (1)) rfl), trivial⟩ ⟨hq.1, hq.2.1, (hq.2.2.sift fun y hy => Or.inr (N y hy)).mono (Nat.le_refl _) (Nat.le_refl _)⟩⟩
theorem main_1_1 : Claimed_1_1 := comes_1 fun _ _ _ _ _ _ h hF => ⟨h.1, hF⟩
theorem main_1_2 : Claimed_1_2 := comes_1 fun _ _ _ _ _ _ h hF => ⟨h.2.1, hF⟩
end Jvm.Pilot.@@N@@
namespace Jvm.Pilot.@@N@@
open Jvm Jvm.ClassFile Sem Op Lib Jvm.Free Jvm.Stand Jvm.Pilot.@@N@@.Jvm.D
/-! MADE BY PROGRAM (witnessworld.py) out of the Statement's table words and the real class files: 9 classes; the members and pool entries that the words name. The judged class is class 1, her method 4. -/
namespace start1
open Jvm.ClassFile
def u (s : String) : CpInfo := .utf8 (stringToUtf16 s)
/-- a pool by its gaps: so many unusable entries, then the entry; so many at the end -/
def gap : Nat → List CpInfo → List CpInfo
  | 0, r => r
  | n + 1, r => .unusable :: gap n r
def poolList (es : List (Nat × CpInfo)) (last : Nat) : List CpInfo := es.foldr (fun e r => gap e.1 (e.2 :: r)) (gap last [])
def pool (es : List (Nat × CpInfo)) (last : Nat) : Array CpInfo := ⟨poolList es last⟩
def fileOf (pool : Array CpInfo) (this : Nat) (attrs : Array Attribute := #[]) (ms : Array MethodInfo := #[]) (fl : Nat := 33) (sup : Nat := 0) (ifs : Array Nat := #[]) (fds : Array FieldInfo := #[]) : ClassFile where
  minorVersion := 0
  majorVersion := 65
  constantPool := pool
  accessFlags := fl
  thisClass := this
  superClass := sup
  interfaces := ifs
  fields := fds
  methods := ms
  attributes := attrs
def plain (name : String) (sup : Option ClassId) : Class where
  name := name
  kind := .ordinary
  loader := none
  accessFlags := 33
  super := sup
  interfaces := #[]
  cf := none
  fields := #[]
  methods := #[]
  instanceTypes := #[]
  staticTypes := #[]
  resolved := #[]
  callSites := []
  init := .initialized
  statics := none
  mirror := none

def pool0 : Array CpInfo := pool [(5, u "<init>"), (0, u "()V"), (1, .class_ 10), (1, u "java/lang/Object")] 113

def k0c0 : Code := { maxStack := 0, maxLocals := 1, code := object_method_1_code, exceptionTable := #[], attributes := #[] }
def k0m0 : Method := { name := "<init>", desc := "()V", sig := { parameters := [], returnType := none }, accessFlags := 1, code := some k0c0 }
/-- java/lang/Object -/
def k0 : Class := { plain "java/lang/Object" none with
  accessFlags := 33
  interfaces := #[]
  cf := some (fileOf pool0 8 #[] #[{ accessFlags := 1, nameIndex := 5, descriptorIndex := 6, attributes := #[] }] 33 0 #[] #[])
  fields := #[]
  methods := #[k0m0]
  instanceTypes := #[]
  staticTypes := #[]
  resolved := Array.replicate 124 none
  statics := none }

def pool1 : Array CpInfo := pool [(2, .class_ 4), (1, u "java/lang/Object"), (0, u "<init>"), (0, u "()V"), (0, .long 31), (1, .methodref 10 11), (0, .class_ 12), (0, .nameAndType 13 14), (0, u "CyclicExecutive"), (0, u "getTickTask"), (0, u "(I)I"), (0, .long 257), (1, .methodref 10 18), (0, .nameAndType 19 14), (0, u "getTickJob"), (0, .methodref 10 21), (0, .nameAndType 22 14), (0, u "getRunTicks"), (0, .methodref 10 24), (0, .nameAndType 5 25), (0, u "(II)V"), (0, .methodref 10 27), (0, .nameAndType 28 29), (0, u "addTask"), (0, u "(III)I"), (0, .methodref 10 31), (0, .nameAndType 32 14), (0, u "build"), (0, .methodref 10 34), (0, .nameAndType 35 14), (0, u "run"), (0, .methodref 10 37), (0, .nameAndType 38 39), (0, u "getFrame"), (0, u "()I"), (0, .methodref 10 41), (0, .nameAndType 42 39), (0, u "getHyperperiod"), (0, .methodref 10 44), (0, .nameAndType 45 39), (0, u "getTaskCount"), (0, .methodref 10 47), (0, .nameAndType 48 39), (0, u "getNow"), (0, .methodref 10 50), (0, .nameAndType 51 39), (0, u "getMiss"), (0, .methodref 53 54), (0, .class_ 55), (0, .nameAndType 56 57), (0, u "CyclicExecutiveL7"), (0, u "tableSum"), (0, u "(LCyclicExecutive;I)J"), (0, .methodref 53 59), (0, .nameAndType 60 57), (0, u "runSum"), (0, .methodref 53 62), (0, .nameAndType 63 64), (0, u "cycleSum"), (0, u "(LCyclicExecutive;II)J"), (3, u "law"), (0, u "([I)Z")] 4

def k1m0 : Method := { name := "<init>", desc := "()V", sig := { parameters := [], returnType := none }, accessFlags := 1, code := none }
def k1c1 : Code := { maxStack := 6, maxLocals := 5, code := method_2_code, exceptionTable := #[], attributes := #[] }
def k1m1 : Method := { name := "tableSum", desc := "(LCyclicExecutive;I)J", sig := { parameters := [(.object "CyclicExecutive"), .int], returnType := some .long }, accessFlags := 10, code := some k1c1 }
def k1c2 : Code := { maxStack := 6, maxLocals := 5, code := method_3_code, exceptionTable := #[], attributes := #[] }
def k1m2 : Method := { name := "runSum", desc := "(LCyclicExecutive;I)J", sig := { parameters := [(.object "CyclicExecutive"), .int], returnType := some .long }, accessFlags := 10, code := some k1c2 }
def k1c3 : Code := { maxStack := 6, maxLocals := 7, code := method_4_code, exceptionTable := #[], attributes := #[] }
def k1m3 : Method := { name := "cycleSum", desc := "(LCyclicExecutive;II)J", sig := { parameters := [(.object "CyclicExecutive"), .int, .int], returnType := some .long }, accessFlags := 10, code := some k1c3 }
def k1c4 : Code := { maxStack := 6, maxLocals := 19, code := code, exceptionTable := #[], attributes := #[] }
def k1m4 : Method := { name := "law", desc := "([I)Z", sig := { parameters := [(.array .int)], returnType := some .boolean }, accessFlags := 9, code := some k1c4 }
/-- CyclicExecutiveL7 -/
def k1 : Class := { plain "CyclicExecutiveL7" (some 0) with
  accessFlags := 33
  interfaces := #[]
  cf := some (fileOf pool1 53 #[] #[{ accessFlags := 1, nameIndex := 5, descriptorIndex := 6, attributes := #[] }, { accessFlags := 10, nameIndex := 56, descriptorIndex := 57, attributes := #[] }, { accessFlags := 10, nameIndex := 60, descriptorIndex := 57, attributes := #[] }, { accessFlags := 10, nameIndex := 63, descriptorIndex := 64, attributes := #[] }, { accessFlags := 9, nameIndex := 68, descriptorIndex := 69, attributes := #[] }] 33 2 #[] #[])
  fields := #[]
  methods := #[k1m0, k1m1, k1m2, k1m3, k1m4]
  instanceTypes := #[]
  staticTypes := #[]
  resolved := Array.replicate 74 none
  statics := none }

def pool2 : Array CpInfo := pool [(1, .methodref 2 3), (0, .class_ 4), (0, .nameAndType 5 6), (0, u "java/lang/Object"), (0, u "<init>"), (0, u "()V"), (0, .fieldref 8 9), (0, .class_ 10), (0, .nameAndType 11 12), (0, u "CyclicExecutive"), (0, u "per"), (0, u "[I"), (0, .fieldref 8 14), (0, .nameAndType 15 12), (0, u "exe"), (0, .fieldref 8 17), (0, .nameAndType 18 12), (0, u "dl"), (0, .fieldref 8 20), (0, .nameAndType 21 12), (0, u "runCnt"), (0, .fieldref 8 23), (0, .nameAndType 24 12), (0, u "tickTask"), (0, .fieldref 8 26), (0, .nameAndType 27 12), (0, u "tickJob"), (0, .fieldref 8 29), (0, .nameAndType 30 12), (0, u "rem"), (0, .methodref 8 32), (0, .nameAndType 33 34), (0, u "clamp"), (0, u "(III)I"), (0, .fieldref 8 36), (0, .nameAndType 37 38), (0, u "maxTasks"), (0, u "I"), (0, .fieldref 8 40), (0, .nameAndType 41 38), (0, u "maxHyper"), (0, .fieldref 8 43), (0, .nameAndType 44 38), (0, u "count"), (0, .fieldref 8 46), (0, .nameAndType 47 38), (0, u "hyper"), (0, .fieldref 8 49), (0, .nameAndType 50 51), (0, u "present"), (0, u "Z"), (0, .fieldref 8 53), (0, .nameAndType 54 38), (0, u "frame"), (0, .fieldref 8 56), (0, .nameAndType 57 38), (0, u "miss"), (0, .fieldref 8 59), (0, .nameAndType 60 38), (0, u "now"), (0, .fieldref 8 62), (0, .nameAndType 63 38), (0, u "pos"), (0, .methodref 8 65), (0, .nameAndType 66 67), (0, u "gcd"), (0, u "(II)I"), (0, .methodref 8 69), (0, .nameAndType 70 67), (0, u "lcm"), (0, .methodref 8 72), (0, .nameAndType 73 6), (0, u "resetDispatcher"), (0, .methodref 8 75), (0, .nameAndType 76 77), (0, u "dividesHyper"), (0, u "(I)Z"), (3, u "()I"), (0, .methodref 8 83), (0, .nameAndType 84 77), (0, u "deadlinesOk"), (3, .methodref 8 89), (0, .nameAndType 90 6), (0, u "initJobs"), (0, .methodref 8 92), (0, .nameAndType 93 94), (0, u "fillFrame"), (0, u "(II)V"), (0, .methodref 8 96), (0, .nameAndType 97 81), (0, u "findMiss"), (0, .methodref 8 99), (0, .nameAndType 100 67), (0, u "pickJob"), (0, .methodref 8 102), (0, .nameAndType 103 77), (0, u "validTick"), (0, u "IDLE"), (2, u "BUILD_OK"), (1, u "ERR_ARG"), (0, u "ERR_FULL"), (1, u "ERR_HYPER"), (1, u "ERR_EMPTY"), (1, u "ERR_DIVIDE"), (1, u "ERR_DEADLINE"), (1, u "ERR_MISS"), (1, u "MAX_RUN"), (1, u "TASK_CAP"), (1, u "HYPER_CAP"), (1, u "JOB_SHIFT"), (3, u "addTask"), (0, u "getTaskCount"), (0, u "getHyperperiod"), (2, u "(I)I"), (0, u "build"), (0, u "getFrame"), (0, u "getTickTask"), (0, u "getTickJob"), (1, u "getMiss"), (0, u "run"), (0, u "getNow"), (0, u "getRunTicks")] 2

def k2c0 : Code := { maxStack := 5, maxLocals := 3, code := prog_1_method_1_code, exceptionTable := #[], attributes := #[] }
def k2m0 : Method := { name := "<init>", desc := "(II)V", sig := { parameters := [.int, .int], returnType := none }, accessFlags := 1, code := some k2c0 }
def k2c1 : Code := { maxStack := 2, maxLocals := 4, code := prog_1_method_2_code, exceptionTable := #[], attributes := #[] }
def k2m1 : Method := { name := "clamp", desc := "(III)I", sig := { parameters := [.int, .int, .int], returnType := some .int }, accessFlags := 2, code := some k2c1 }
def k2c2 : Code := { maxStack := 2, maxLocals := 7, code := prog_1_method_3_code, exceptionTable := #[], attributes := #[] }
def k2m2 : Method := { name := "gcd", desc := "(II)I", sig := { parameters := [.int, .int], returnType := some .int }, accessFlags := 2, code := some k2c2 }
def k2c3 : Code := { maxStack := 3, maxLocals := 4, code := prog_1_method_4_code, exceptionTable := #[], attributes := #[] }
def k2m3 : Method := { name := "lcm", desc := "(II)I", sig := { parameters := [.int, .int], returnType := some .int }, accessFlags := 2, code := some k2c3 }
def k2c4 : Code := { maxStack := 3, maxLocals := 2, code := prog_1_method_5_code, exceptionTable := #[], attributes := #[] }
def k2m4 : Method := { name := "resetDispatcher", desc := "()V", sig := { parameters := [], returnType := none }, accessFlags := 2, code := some k2c4 }
def k2c5 : Code := { maxStack := 3, maxLocals := 7, code := prog_1_method_6_code, exceptionTable := #[], attributes := #[] }
def k2m5 : Method := { name := "addTask", desc := "(III)I", sig := { parameters := [.int, .int, .int], returnType := some .int }, accessFlags := 1, code := some k2c5 }
def k2c6 : Code := { maxStack := 1, maxLocals := 1, code := prog_1_method_7_code, exceptionTable := #[], attributes := #[] }
def k2m6 : Method := { name := "getTaskCount", desc := "()I", sig := { parameters := [], returnType := some .int }, accessFlags := 1, code := some k2c6 }
def k2c7 : Code := { maxStack := 1, maxLocals := 1, code := prog_1_method_8_code, exceptionTable := #[], attributes := #[] }
def k2m7 : Method := { name := "getHyperperiod", desc := "()I", sig := { parameters := [], returnType := some .int }, accessFlags := 1, code := some k2c7 }
def k2c8 : Code := { maxStack := 2, maxLocals := 2, code := prog_1_method_9_code, exceptionTable := #[], attributes := #[] }
def k2m8 : Method := { name := "dividesHyper", desc := "(I)Z", sig := { parameters := [.int], returnType := some .boolean }, accessFlags := 2, code := some k2c8 }
def k2c9 : Code := { maxStack := 4, maxLocals := 4, code := prog_1_method_11_code, exceptionTable := #[], attributes := #[] }
def k2m9 : Method := { name := "deadlinesOk", desc := "(I)Z", sig := { parameters := [.int], returnType := some .boolean }, accessFlags := 2, code := some k2c9 }
def k2c10 : Code := { maxStack := 3, maxLocals := 4, code := prog_1_method_15_code, exceptionTable := #[], attributes := #[] }
def k2m10 : Method := { name := "build", desc := "(I)I", sig := { parameters := [.int], returnType := some .int }, accessFlags := 1, code := some k2c10 }
def k2c11 : Code := { maxStack := 4, maxLocals := 4, code := prog_1_method_16_code, exceptionTable := #[], attributes := #[] }
def k2m11 : Method := { name := "initJobs", desc := "()V", sig := { parameters := [], returnType := none }, accessFlags := 2, code := some k2c11 }
def k2c12 : Code := { maxStack := 4, maxLocals := 11, code := prog_1_method_17_code, exceptionTable := #[], attributes := #[] }
def k2m12 : Method := { name := "fillFrame", desc := "(II)V", sig := { parameters := [.int, .int], returnType := none }, accessFlags := 2, code := some k2c12 }
def k2c13 : Code := { maxStack := 3, maxLocals := 9, code := prog_1_method_18_code, exceptionTable := #[], attributes := #[] }
def k2m13 : Method := { name := "pickJob", desc := "(II)I", sig := { parameters := [.int, .int], returnType := some .int }, accessFlags := 2, code := some k2c13 }
def k2c14 : Code := { maxStack := 3, maxLocals := 8, code := prog_1_method_19_code, exceptionTable := #[], attributes := #[] }
def k2m14 : Method := { name := "findMiss", desc := "()I", sig := { parameters := [], returnType := some .int }, accessFlags := 2, code := some k2c14 }
def k2c15 : Code := { maxStack := 1, maxLocals := 1, code := prog_1_method_20_code, exceptionTable := #[], attributes := #[] }
def k2m15 : Method := { name := "getFrame", desc := "()I", sig := { parameters := [], returnType := some .int }, accessFlags := 1, code := some k2c15 }
def k2c16 : Code := { maxStack := 2, maxLocals := 2, code := prog_1_method_21_code, exceptionTable := #[], attributes := #[] }
def k2m16 : Method := { name := "validTick", desc := "(I)Z", sig := { parameters := [.int], returnType := some .boolean }, accessFlags := 2, code := some k2c16 }
def k2c17 : Code := { maxStack := 2, maxLocals := 2, code := prog_1_method_22_code, exceptionTable := #[], attributes := #[] }
def k2m17 : Method := { name := "getTickTask", desc := "(I)I", sig := { parameters := [.int], returnType := some .int }, accessFlags := 1, code := some k2c17 }
def k2c18 : Code := { maxStack := 2, maxLocals := 2, code := prog_1_method_23_code, exceptionTable := #[], attributes := #[] }
def k2m18 : Method := { name := "getTickJob", desc := "(I)I", sig := { parameters := [.int], returnType := some .int }, accessFlags := 1, code := some k2c18 }
def k2c19 : Code := { maxStack := 1, maxLocals := 1, code := prog_1_method_25_code, exceptionTable := #[], attributes := #[] }
def k2m19 : Method := { name := "getMiss", desc := "()I", sig := { parameters := [], returnType := some .int }, accessFlags := 1, code := some k2c19 }
def k2c20 : Code := { maxStack := 4, maxLocals := 5, code := prog_1_method_26_code, exceptionTable := #[], attributes := #[] }
def k2m20 : Method := { name := "run", desc := "(I)I", sig := { parameters := [.int], returnType := some .int }, accessFlags := 1, code := some k2c20 }
def k2c21 : Code := { maxStack := 1, maxLocals := 1, code := prog_1_method_27_code, exceptionTable := #[], attributes := #[] }
def k2m21 : Method := { name := "getNow", desc := "()I", sig := { parameters := [], returnType := some .int }, accessFlags := 1, code := some k2c21 }
def k2c22 : Code := { maxStack := 2, maxLocals := 2, code := prog_1_method_28_code, exceptionTable := #[], attributes := #[] }
def k2m22 : Method := { name := "getRunTicks", desc := "(I)I", sig := { parameters := [.int], returnType := some .int }, accessFlags := 1, code := some k2c22 }
/-- CyclicExecutive -/
def k2 : Class := { plain "CyclicExecutive" (some 0) with
  accessFlags := 49
  interfaces := #[]
  cf := some (fileOf pool2 8 #[] #[{ accessFlags := 1, nameIndex := 5, descriptorIndex := 94, attributes := #[] }, { accessFlags := 2, nameIndex := 33, descriptorIndex := 34, attributes := #[] }, { accessFlags := 2, nameIndex := 66, descriptorIndex := 67, attributes := #[] }, { accessFlags := 2, nameIndex := 70, descriptorIndex := 67, attributes := #[] }, { accessFlags := 2, nameIndex := 73, descriptorIndex := 6, attributes := #[] }, { accessFlags := 1, nameIndex := 132, descriptorIndex := 34, attributes := #[] }, { accessFlags := 1, nameIndex := 133, descriptorIndex := 81, attributes := #[] }, { accessFlags := 1, nameIndex := 134, descriptorIndex := 81, attributes := #[] }, { accessFlags := 2, nameIndex := 76, descriptorIndex := 77, attributes := #[] }, { accessFlags := 2, nameIndex := 84, descriptorIndex := 77, attributes := #[] }, { accessFlags := 1, nameIndex := 138, descriptorIndex := 137, attributes := #[] }, { accessFlags := 2, nameIndex := 90, descriptorIndex := 6, attributes := #[] }, { accessFlags := 2, nameIndex := 93, descriptorIndex := 94, attributes := #[] }, { accessFlags := 2, nameIndex := 100, descriptorIndex := 67, attributes := #[] }, { accessFlags := 2, nameIndex := 97, descriptorIndex := 81, attributes := #[] }, { accessFlags := 1, nameIndex := 139, descriptorIndex := 81, attributes := #[] }, { accessFlags := 2, nameIndex := 103, descriptorIndex := 77, attributes := #[] }, { accessFlags := 1, nameIndex := 140, descriptorIndex := 137, attributes := #[] }, { accessFlags := 1, nameIndex := 141, descriptorIndex := 137, attributes := #[] }, { accessFlags := 1, nameIndex := 143, descriptorIndex := 81, attributes := #[] }, { accessFlags := 1, nameIndex := 144, descriptorIndex := 137, attributes := #[] }, { accessFlags := 1, nameIndex := 145, descriptorIndex := 81, attributes := #[] }, { accessFlags := 1, nameIndex := 146, descriptorIndex := 137, attributes := #[] }] 49 2 #[] #[{ accessFlags := 25, nameIndex := 104, descriptorIndex := 38, attributes := #[] }, { accessFlags := 25, nameIndex := 107, descriptorIndex := 38, attributes := #[] }, { accessFlags := 25, nameIndex := 109, descriptorIndex := 38, attributes := #[] }, { accessFlags := 25, nameIndex := 110, descriptorIndex := 38, attributes := #[] }, { accessFlags := 25, nameIndex := 112, descriptorIndex := 38, attributes := #[] }, { accessFlags := 25, nameIndex := 114, descriptorIndex := 38, attributes := #[] }, { accessFlags := 25, nameIndex := 116, descriptorIndex := 38, attributes := #[] }, { accessFlags := 25, nameIndex := 118, descriptorIndex := 38, attributes := #[] }, { accessFlags := 25, nameIndex := 120, descriptorIndex := 38, attributes := #[] }, { accessFlags := 25, nameIndex := 122, descriptorIndex := 38, attributes := #[] }, { accessFlags := 26, nameIndex := 124, descriptorIndex := 38, attributes := #[] }, { accessFlags := 26, nameIndex := 126, descriptorIndex := 38, attributes := #[] }, { accessFlags := 26, nameIndex := 128, descriptorIndex := 38, attributes := #[] }, { accessFlags := 2, nameIndex := 37, descriptorIndex := 38, attributes := #[] }, { accessFlags := 2, nameIndex := 41, descriptorIndex := 38, attributes := #[] }, { accessFlags := 2, nameIndex := 44, descriptorIndex := 38, attributes := #[] }, { accessFlags := 2, nameIndex := 47, descriptorIndex := 38, attributes := #[] }, { accessFlags := 18, nameIndex := 11, descriptorIndex := 12, attributes := #[] }, { accessFlags := 18, nameIndex := 15, descriptorIndex := 12, attributes := #[] }, { accessFlags := 18, nameIndex := 18, descriptorIndex := 12, attributes := #[] }, { accessFlags := 18, nameIndex := 21, descriptorIndex := 12, attributes := #[] }, { accessFlags := 2, nameIndex := 50, descriptorIndex := 51, attributes := #[] }, { accessFlags := 2, nameIndex := 54, descriptorIndex := 38, attributes := #[] }, { accessFlags := 18, nameIndex := 24, descriptorIndex := 12, attributes := #[] }, { accessFlags := 18, nameIndex := 27, descriptorIndex := 12, attributes := #[] }, { accessFlags := 18, nameIndex := 30, descriptorIndex := 12, attributes := #[] }, { accessFlags := 2, nameIndex := 57, descriptorIndex := 38, attributes := #[] }, { accessFlags := 2, nameIndex := 60, descriptorIndex := 38, attributes := #[] }, { accessFlags := 2, nameIndex := 63, descriptorIndex := 38, attributes := #[] }])
  fields := #[{ name := "IDLE", type := .int, accessFlags := 25, slot := 0, constantValue := 0 }, { name := "BUILD_OK", type := .int, accessFlags := 25, slot := 1, constantValue := 0 }, { name := "ERR_ARG", type := .int, accessFlags := 25, slot := 2, constantValue := 0 }, { name := "ERR_FULL", type := .int, accessFlags := 25, slot := 3, constantValue := 0 }, { name := "ERR_HYPER", type := .int, accessFlags := 25, slot := 4, constantValue := 0 }, { name := "ERR_EMPTY", type := .int, accessFlags := 25, slot := 5, constantValue := 0 }, { name := "ERR_DIVIDE", type := .int, accessFlags := 25, slot := 6, constantValue := 0 }, { name := "ERR_DEADLINE", type := .int, accessFlags := 25, slot := 7, constantValue := 0 }, { name := "ERR_MISS", type := .int, accessFlags := 25, slot := 8, constantValue := 0 }, { name := "MAX_RUN", type := .int, accessFlags := 25, slot := 9, constantValue := 0 }, { name := "TASK_CAP", type := .int, accessFlags := 26, slot := 10, constantValue := 0 }, { name := "HYPER_CAP", type := .int, accessFlags := 26, slot := 11, constantValue := 0 }, { name := "JOB_SHIFT", type := .int, accessFlags := 26, slot := 12, constantValue := 0 }, { name := "maxTasks", type := .int, accessFlags := 2, slot := 0, constantValue := 0 }, { name := "maxHyper", type := .int, accessFlags := 2, slot := 1, constantValue := 0 }, { name := "count", type := .int, accessFlags := 2, slot := 2, constantValue := 0 }, { name := "hyper", type := .int, accessFlags := 2, slot := 3, constantValue := 0 }, { name := "per", type := (.array .int), accessFlags := 18, slot := 4, constantValue := 0 }, { name := "exe", type := (.array .int), accessFlags := 18, slot := 5, constantValue := 0 }, { name := "dl", type := (.array .int), accessFlags := 18, slot := 6, constantValue := 0 }, { name := "runCnt", type := (.array .int), accessFlags := 18, slot := 7, constantValue := 0 }, { name := "present", type := .boolean, accessFlags := 2, slot := 8, constantValue := 0 }, { name := "frame", type := .int, accessFlags := 2, slot := 9, constantValue := 0 }, { name := "tickTask", type := (.array .int), accessFlags := 18, slot := 10, constantValue := 0 }, { name := "tickJob", type := (.array .int), accessFlags := 18, slot := 11, constantValue := 0 }, { name := "rem", type := (.array .int), accessFlags := 18, slot := 12, constantValue := 0 }, { name := "miss", type := .int, accessFlags := 2, slot := 13, constantValue := 0 }, { name := "now", type := .int, accessFlags := 2, slot := 14, constantValue := 0 }, { name := "pos", type := .int, accessFlags := 2, slot := 15, constantValue := 0 }]
  methods := #[k2m0, k2m1, k2m2, k2m3, k2m4, k2m5, k2m6, k2m7, k2m8, k2m9, k2m10, k2m11, k2m12, k2m13, k2m14, k2m15, k2m16, k2m17, k2m18, k2m19, k2m20, k2m21, k2m22]
  instanceTypes := #[.int, .int, .int, .int, (.array .int), (.array .int), (.array .int), (.array .int), .boolean, .int, (.array .int), (.array .int), (.array .int), .int, .int, .int]
  staticTypes := #[.int, .int, .int, .int, .int, .int, .int, .int, .int, .int, .int, .int, .int]
  resolved := Array.replicate 149 none
  statics := none }

def pool3 : Array CpInfo := pool [(1, u "java/lang/Cloneable"), (0, .class_ 1), (0, u "java/lang/Object"), (0, .class_ 3)] 3

/-- java/lang/Cloneable -/
def k3 : Class := { plain "java/lang/Cloneable" (some 0) with
  accessFlags := 1537
  interfaces := #[]
  cf := some (fileOf pool3 2 #[] #[] 1537 4 #[] #[])
  fields := #[]
  methods := #[]
  instanceTypes := #[]
  staticTypes := #[]
  resolved := Array.replicate 8 none
  statics := none }

def pool4 : Array CpInfo := pool [(1, u "java/io/Serializable"), (0, .class_ 1), (0, u "java/lang/Object"), (0, .class_ 3)] 3

/-- java/io/Serializable -/
def k4 : Class := { plain "java/io/Serializable" (some 0) with
  accessFlags := 1537
  interfaces := #[]
  cf := some (fileOf pool4 2 #[] #[] 1537 4 #[] #[])
  fields := #[]
  methods := #[]
  instanceTypes := #[]
  staticTypes := #[]
  resolved := Array.replicate 8 none
  statics := none }

/-- the primitive byte -/
def k5 : Class := { plain "byte" none with kind := .primitive 'B', accessFlags := 0x411 }
/-- [B -/
def k6 : Class := { plain "[B" (some 0) with kind := .array 5 .byte, interfaces := #[3, 4], accessFlags := 1041 }

/-- the primitive int -/
def k7 : Class := { plain "int" none with kind := .primitive 'I', accessFlags := 0x411 }
/-- [I -/
def k8 : Class := { plain "[I" (some 0) with kind := .array 7 .int, interfaces := #[3, 4], accessFlags := 1041 }

def heap : Heap := #[{ cls := 8, slots := #[.int 0, .int 3, .int 0, .int 0, .int 2, .int 3, .int 0, .int 0, .int 7, .int 9, .int 0, .int 0], vm := .none }]
def classes : Array Class := #[k0, k1, k2, k3, k4, k5, k6, k7, k8]
def interned : List (Array UInt16 × Addr) := []
def slotsUsed : Nat := 12
def theMethod : MethodId := ⟨1, 4⟩
def args0 : Array Value := #[.ref 0]
def aboutOver (below : List Frame) : State where
  vm := { classes := classes, interned := interned.toArray }
  heap := heap
  slotsUsed := slotsUsed
  threads := #[{ frames := .invoking theMethod args0 :: below }]
def below0 : List Frame := [.native { method := ⟨0, 0⟩, args := #[] }]
def about1 : State := aboutOver below0
def p0 : Program := .bare "" "" ""
def e0 : Env := launch0.env 0 0 0
theorem w_frames : about1.frames = Frame.invoking theMethod args0 :: below0 := rfl
set_option maxRecDepth 65536 in
theorem w_args : argsFit about1.vm theMethod args0 = true := by decide +kernel
set_option maxRecDepth 65536 in
theorem w_heap : heapFits about1 = true := by decide +kernel
set_option maxRecDepth 65536 in
theorem w_runnable : about1.curStatus? = some .runnable := by decide +kernel
set_option maxRecDepth 65536 in
theorem w_alone : about1.alone = true := by decide +kernel
set_option maxRecDepth 65536 in
theorem w_named : about1.methodNamed? x = some theMethod := by decide +kernel
set_option maxRecDepth 65536 in
theorem w_hears : about1.hears theMethod below0 = true := by decide +kernel
set_option maxRecDepth 65536 in
theorem w_ripe : about1.ripe theMethod args0 below0 = true := by decide +kernel
theorem w_running : about1.status = .running := rfl
set_option maxRecDepth 65536 in
theorem w_room : about1.hasRoom e0.platform room_1 = true :=
  launch0.hasRoom_least _ room_1 (by decide +kernel) (by decide +kernel) (by decide +kernel) (by decide +kernel) (by decide +kernel) (by decide +kernel)
theorem allAtoms_all (ts : List Jvm.Cond) (a : Array Jvm.Value) (st : Jvm.State) : (allAtoms ts).before a st = ts.all (fun c => c.before a st) := by
  induction ts with
  | nil => rfl
  | cons c t ih =>
    show (Jvm.Cond.and c (allAtoms t)).before a st = _
    rw [Jvm.Cond.before_and, ih, List.all_cons]
def words1 : List Jvm.Cond := Jvm.Cond.code x code maxLocals ret :: tables_1
/-- a 'code' word, met by the world's own term for the bytes: nothing is compared byte by byte -/
theorem code_word {y : MethodName} {bytes : ByteArray} {mx : Nat} {rt : Option FieldType} {a : Array Value} {s : State} {m : MethodId} {meth : Method} {c : Code} (h1 : s.methodNamed? y = some m) (h2 : s.vm.method? m = some meth) (h3 : meth.code = some c) (h4 : c.code = bytes)
    (h5 : (c.maxLocals == mx && c.exceptionTable.isEmpty && decide (c.maxStack ≤ mostOperands) && decide (meth.sig.returnType = rt) && !meth.locks && decide (parseMethodDescriptor y.desc = some meth.sig)) = true) : (Jvm.Cond.code y bytes mx rt).before a s = true := by
  simp only [Bool.and_eq_true, beq_iff_eq, Bool.not_eq_true', decide_eq_true_eq] at h5
  obtain ⟨⟨⟨⟨⟨g1, g2⟩, g3⟩, g4⟩, g5⟩, g6⟩ := h5
  simp [Cond.before, Cond.holds, Cond.value, h1, h2, h3, h4, g1, g2, g3, g4, g5, g6]
def isCode : Jvm.Cond → Bool
  | .code _ _ _ _ => true
  | _ => false
theorem all_split {L : List Jvm.Cond} {P : Jvm.Cond → Bool} (h1 : L.all (fun c => isCode c || P c) = true) (h2 : ∀ c ∈ L.filter isCode, P c = true) : L.all P = true := by
  refine List.all_eq_true.mpr fun c hc => ?_
  have h := List.all_eq_true.mp h1 c hc
  rcases Bool.eq_false_or_eq_true (isCode c) with hi | hi
  · exact h2 c (List.mem_filter.mpr ⟨hc, hi⟩)
  · simpa [hi] using h
set_option maxRecDepth 65536 in
theorem w_c0 : (Jvm.Cond.code x code maxLocals ret).before args0 about1 = true := code_word (m := ⟨1, 4⟩) (meth := k1m4) (c := k1c4) (by decide +kernel) rfl rfl rfl (by decide +kernel)
set_option maxRecDepth 65536 in
theorem w_c1 : (Jvm.Cond.code ({ cls := "CyclicExecutive", name := "<init>", desc := "(II)V" } : Jvm.MethodName) prog_1_method_1_code (3 : Nat) (Option.none : Option Jvm.ClassFile.FieldType)).before args0 about1 = true := code_word (m := ⟨2, 0⟩) (meth := k2m0) (c := k2c0) (by decide +kernel) rfl rfl rfl (by decide +kernel)
set_option maxRecDepth 65536 in
theorem w_c2 : (Jvm.Cond.code ({ cls := "java/lang/Object", name := "<init>", desc := "()V" } : Jvm.MethodName) object_method_1_code (1 : Nat) (Option.none : Option Jvm.ClassFile.FieldType)).before args0 about1 = true := code_word (m := ⟨0, 0⟩) (meth := k0m0) (c := k0c0) (by decide +kernel) rfl rfl rfl (by decide +kernel)
set_option maxRecDepth 65536 in
theorem w_c3 : (Jvm.Cond.code ({ cls := "CyclicExecutive", name := "clamp", desc := "(III)I" } : Jvm.MethodName) prog_1_method_2_code (4 : Nat) (Option.some Jvm.ClassFile.FieldType.int)).before args0 about1 = true := code_word (m := ⟨2, 1⟩) (meth := k2m1) (c := k2c1) (by decide +kernel) rfl rfl rfl (by decide +kernel)
set_option maxRecDepth 65536 in
theorem w_c4 : (Jvm.Cond.code ({ cls := "CyclicExecutive", name := "run", desc := "(I)I" } : Jvm.MethodName) prog_1_method_26_code (5 : Nat) (Option.some Jvm.ClassFile.FieldType.int)).before args0 about1 = true := code_word (m := ⟨2, 20⟩) (meth := k2m20) (c := k2c20) (by decide +kernel) rfl rfl rfl (by decide +kernel)
set_option maxRecDepth 65536 in
theorem w_c5 : (Jvm.Cond.code ({ cls := "CyclicExecutive", name := "addTask", desc := "(III)I" } : Jvm.MethodName) prog_1_method_6_code (7 : Nat) (Option.some Jvm.ClassFile.FieldType.int)).before args0 about1 = true := code_word (m := ⟨2, 5⟩) (meth := k2m5) (c := k2c5) (by decide +kernel) rfl rfl rfl (by decide +kernel)
set_option maxRecDepth 65536 in
theorem w_c6 : (Jvm.Cond.code ({ cls := "CyclicExecutive", name := "lcm", desc := "(II)I" } : Jvm.MethodName) prog_1_method_4_code (4 : Nat) (Option.some Jvm.ClassFile.FieldType.int)).before args0 about1 = true := code_word (m := ⟨2, 3⟩) (meth := k2m3) (c := k2c3) (by decide +kernel) rfl rfl rfl (by decide +kernel)
set_option maxRecDepth 65536 in
theorem w_c7 : (Jvm.Cond.code ({ cls := "CyclicExecutive", name := "gcd", desc := "(II)I" } : Jvm.MethodName) prog_1_method_3_code (7 : Nat) (Option.some Jvm.ClassFile.FieldType.int)).before args0 about1 = true := code_word (m := ⟨2, 2⟩) (meth := k2m2) (c := k2c2) (by decide +kernel) rfl rfl rfl (by decide +kernel)
set_option maxRecDepth 65536 in
theorem w_c8 : (Jvm.Cond.code ({ cls := "CyclicExecutive", name := "resetDispatcher", desc := "()V" } : Jvm.MethodName) prog_1_method_5_code (2 : Nat) (Option.none : Option Jvm.ClassFile.FieldType)).before args0 about1 = true := code_word (m := ⟨2, 4⟩) (meth := k2m4) (c := k2c4) (by decide +kernel) rfl rfl rfl (by decide +kernel)
set_option maxRecDepth 65536 in
theorem w_c9 : (Jvm.Cond.code ({ cls := "CyclicExecutive", name := "build", desc := "(I)I" } : Jvm.MethodName) prog_1_method_15_code (4 : Nat) (Option.some Jvm.ClassFile.FieldType.int)).before args0 about1 = true := code_word (m := ⟨2, 10⟩) (meth := k2m10) (c := k2c10) (by decide +kernel) rfl rfl rfl (by decide +kernel)
set_option maxRecDepth 65536 in
theorem w_c10 : (Jvm.Cond.code ({ cls := "CyclicExecutive", name := "dividesHyper", desc := "(I)Z" } : Jvm.MethodName) prog_1_method_9_code (2 : Nat) (Option.some Jvm.ClassFile.FieldType.boolean)).before args0 about1 = true := code_word (m := ⟨2, 8⟩) (meth := k2m8) (c := k2c8) (by decide +kernel) rfl rfl rfl (by decide +kernel)
set_option maxRecDepth 65536 in
theorem w_c11 : (Jvm.Cond.code ({ cls := "CyclicExecutive", name := "deadlinesOk", desc := "(I)Z" } : Jvm.MethodName) prog_1_method_11_code (4 : Nat) (Option.some Jvm.ClassFile.FieldType.boolean)).before args0 about1 = true := code_word (m := ⟨2, 9⟩) (meth := k2m9) (c := k2c9) (by decide +kernel) rfl rfl rfl (by decide +kernel)
set_option maxRecDepth 65536 in
theorem w_c12 : (Jvm.Cond.code ({ cls := "CyclicExecutive", name := "initJobs", desc := "()V" } : Jvm.MethodName) prog_1_method_16_code (4 : Nat) (Option.none : Option Jvm.ClassFile.FieldType)).before args0 about1 = true := code_word (m := ⟨2, 11⟩) (meth := k2m11) (c := k2c11) (by decide +kernel) rfl rfl rfl (by decide +kernel)
set_option maxRecDepth 65536 in
theorem w_c13 : (Jvm.Cond.code ({ cls := "CyclicExecutive", name := "fillFrame", desc := "(II)V" } : Jvm.MethodName) prog_1_method_17_code (11 : Nat) (Option.none : Option Jvm.ClassFile.FieldType)).before args0 about1 = true := code_word (m := ⟨2, 12⟩) (meth := k2m12) (c := k2c12) (by decide +kernel) rfl rfl rfl (by decide +kernel)
set_option maxRecDepth 65536 in
theorem w_c14 : (Jvm.Cond.code ({ cls := "CyclicExecutive", name := "pickJob", desc := "(II)I" } : Jvm.MethodName) prog_1_method_18_code (9 : Nat) (Option.some Jvm.ClassFile.FieldType.int)).before args0 about1 = true := code_word (m := ⟨2, 13⟩) (meth := k2m13) (c := k2c13) (by decide +kernel) rfl rfl rfl (by decide +kernel)
set_option maxRecDepth 65536 in
theorem w_c15 : (Jvm.Cond.code ({ cls := "CyclicExecutive", name := "findMiss", desc := "()I" } : Jvm.MethodName) prog_1_method_19_code (8 : Nat) (Option.some Jvm.ClassFile.FieldType.int)).before args0 about1 = true := code_word (m := ⟨2, 14⟩) (meth := k2m14) (c := k2c14) (by decide +kernel) rfl rfl rfl (by decide +kernel)
set_option maxRecDepth 65536 in
theorem w_c16 : (Jvm.Cond.code ({ cls := "CyclicExecutive", name := "getFrame", desc := "()I" } : Jvm.MethodName) prog_1_method_20_code (1 : Nat) (Option.some Jvm.ClassFile.FieldType.int)).before args0 about1 = true := code_word (m := ⟨2, 15⟩) (meth := k2m15) (c := k2c15) (by decide +kernel) rfl rfl rfl (by decide +kernel)
set_option maxRecDepth 65536 in
theorem w_c17 : (Jvm.Cond.code ({ cls := "CyclicExecutive", name := "getHyperperiod", desc := "()I" } : Jvm.MethodName) prog_1_method_8_code (1 : Nat) (Option.some Jvm.ClassFile.FieldType.int)).before args0 about1 = true := code_word (m := ⟨2, 7⟩) (meth := k2m7) (c := k2c7) (by decide +kernel) rfl rfl rfl (by decide +kernel)
set_option maxRecDepth 65536 in
theorem w_c18 : (Jvm.Cond.code ({ cls := "CyclicExecutive", name := "getTaskCount", desc := "()I" } : Jvm.MethodName) prog_1_method_7_code (1 : Nat) (Option.some Jvm.ClassFile.FieldType.int)).before args0 about1 = true := code_word (m := ⟨2, 6⟩) (meth := k2m6) (c := k2c6) (by decide +kernel) rfl rfl rfl (by decide +kernel)
set_option maxRecDepth 65536 in
theorem w_c19 : (Jvm.Cond.code ({ cls := "CyclicExecutive", name := "getNow", desc := "()I" } : Jvm.MethodName) prog_1_method_27_code (1 : Nat) (Option.some Jvm.ClassFile.FieldType.int)).before args0 about1 = true := code_word (m := ⟨2, 21⟩) (meth := k2m21) (c := k2c21) (by decide +kernel) rfl rfl rfl (by decide +kernel)
set_option maxRecDepth 65536 in
theorem w_c20 : (Jvm.Cond.code ({ cls := "CyclicExecutive", name := "getMiss", desc := "()I" } : Jvm.MethodName) prog_1_method_25_code (1 : Nat) (Option.some Jvm.ClassFile.FieldType.int)).before args0 about1 = true := code_word (m := ⟨2, 19⟩) (meth := k2m19) (c := k2c19) (by decide +kernel) rfl rfl rfl (by decide +kernel)
set_option maxRecDepth 65536 in
theorem w_c21 : (Jvm.Cond.code ({ cls := "CyclicExecutiveL7", name := "tableSum", desc := "(LCyclicExecutive;I)J" } : Jvm.MethodName) method_2_code (5 : Nat) (Option.some Jvm.ClassFile.FieldType.long)).before args0 about1 = true := code_word (m := ⟨1, 1⟩) (meth := k1m1) (c := k1c1) (by decide +kernel) rfl rfl rfl (by decide +kernel)
set_option maxRecDepth 65536 in
theorem w_c22 : (Jvm.Cond.code ({ cls := "CyclicExecutive", name := "getTickTask", desc := "(I)I" } : Jvm.MethodName) prog_1_method_22_code (2 : Nat) (Option.some Jvm.ClassFile.FieldType.int)).before args0 about1 = true := code_word (m := ⟨2, 17⟩) (meth := k2m17) (c := k2c17) (by decide +kernel) rfl rfl rfl (by decide +kernel)
set_option maxRecDepth 65536 in
theorem w_c23 : (Jvm.Cond.code ({ cls := "CyclicExecutive", name := "validTick", desc := "(I)Z" } : Jvm.MethodName) prog_1_method_21_code (2 : Nat) (Option.some Jvm.ClassFile.FieldType.boolean)).before args0 about1 = true := code_word (m := ⟨2, 16⟩) (meth := k2m16) (c := k2c16) (by decide +kernel) rfl rfl rfl (by decide +kernel)
set_option maxRecDepth 65536 in
theorem w_c24 : (Jvm.Cond.code ({ cls := "CyclicExecutive", name := "getTickJob", desc := "(I)I" } : Jvm.MethodName) prog_1_method_23_code (2 : Nat) (Option.some Jvm.ClassFile.FieldType.int)).before args0 about1 = true := code_word (m := ⟨2, 18⟩) (meth := k2m18) (c := k2c18) (by decide +kernel) rfl rfl rfl (by decide +kernel)
set_option maxRecDepth 65536 in
theorem w_c25 : (Jvm.Cond.code ({ cls := "CyclicExecutiveL7", name := "runSum", desc := "(LCyclicExecutive;I)J" } : Jvm.MethodName) method_3_code (5 : Nat) (Option.some Jvm.ClassFile.FieldType.long)).before args0 about1 = true := code_word (m := ⟨1, 2⟩) (meth := k1m2) (c := k1c2) (by decide +kernel) rfl rfl rfl (by decide +kernel)
set_option maxRecDepth 65536 in
theorem w_c26 : (Jvm.Cond.code ({ cls := "CyclicExecutive", name := "getRunTicks", desc := "(I)I" } : Jvm.MethodName) prog_1_method_28_code (2 : Nat) (Option.some Jvm.ClassFile.FieldType.int)).before args0 about1 = true := code_word (m := ⟨2, 22⟩) (meth := k2m22) (c := k2c22) (by decide +kernel) rfl rfl rfl (by decide +kernel)
set_option maxRecDepth 65536 in
theorem w_c27 : (Jvm.Cond.code ({ cls := "CyclicExecutiveL7", name := "cycleSum", desc := "(LCyclicExecutive;II)J" } : Jvm.MethodName) method_4_code (7 : Nat) (Option.some Jvm.ClassFile.FieldType.long)).before args0 about1 = true := code_word (m := ⟨1, 3⟩) (meth := k1m3) (c := k1c3) (by decide +kernel) rfl rfl rfl (by decide +kernel)
def codes1 : List Jvm.Cond := [Jvm.Cond.code x code maxLocals ret, Jvm.Cond.code ({ cls := "CyclicExecutive", name := "<init>", desc := "(II)V" } : Jvm.MethodName) prog_1_method_1_code (3 : Nat) (Option.none : Option Jvm.ClassFile.FieldType), Jvm.Cond.code ({ cls := "java/lang/Object", name := "<init>", desc := "()V" } : Jvm.MethodName) object_method_1_code (1 : Nat) (Option.none : Option Jvm.ClassFile.FieldType), Jvm.Cond.code ({ cls := "CyclicExecutive", name := "clamp", desc := "(III)I" } : Jvm.MethodName) prog_1_method_2_code (4 : Nat) (Option.some Jvm.ClassFile.FieldType.int), Jvm.Cond.code ({ cls := "CyclicExecutive", name := "run", desc := "(I)I" } : Jvm.MethodName) prog_1_method_26_code (5 : Nat) (Option.some Jvm.ClassFile.FieldType.int), Jvm.Cond.code ({ cls := "CyclicExecutive", name := "addTask", desc := "(III)I" } : Jvm.MethodName) prog_1_method_6_code (7 : Nat) (Option.some Jvm.ClassFile.FieldType.int), Jvm.Cond.code ({ cls := "CyclicExecutive", name := "lcm", desc := "(II)I" } : Jvm.MethodName) prog_1_method_4_code (4 : Nat) (Option.some Jvm.ClassFile.FieldType.int), Jvm.Cond.code ({ cls := "CyclicExecutive", name := "gcd", desc := "(II)I" } : Jvm.MethodName) prog_1_method_3_code (7 : Nat) (Option.some Jvm.ClassFile.FieldType.int), Jvm.Cond.code ({ cls := "CyclicExecutive", name := "resetDispatcher", desc := "()V" } : Jvm.MethodName) prog_1_method_5_code (2 : Nat) (Option.none : Option Jvm.ClassFile.FieldType), Jvm.Cond.code ({ cls := "CyclicExecutive", name := "build", desc := "(I)I" } : Jvm.MethodName) prog_1_method_15_code (4 : Nat) (Option.some Jvm.ClassFile.FieldType.int), Jvm.Cond.code ({ cls := "CyclicExecutive", name := "dividesHyper", desc := "(I)Z" } : Jvm.MethodName) prog_1_method_9_code (2 : Nat) (Option.some Jvm.ClassFile.FieldType.boolean), Jvm.Cond.code ({ cls := "CyclicExecutive", name := "deadlinesOk", desc := "(I)Z" } : Jvm.MethodName) prog_1_method_11_code (4 : Nat) (Option.some Jvm.ClassFile.FieldType.boolean), Jvm.Cond.code ({ cls := "CyclicExecutive", name := "initJobs", desc := "()V" } : Jvm.MethodName) prog_1_method_16_code (4 : Nat) (Option.none : Option Jvm.ClassFile.FieldType), Jvm.Cond.code ({ cls := "CyclicExecutive", name := "fillFrame", desc := "(II)V" } : Jvm.MethodName) prog_1_method_17_code (11 : Nat) (Option.none : Option Jvm.ClassFile.FieldType), Jvm.Cond.code ({ cls := "CyclicExecutive", name := "pickJob", desc := "(II)I" } : Jvm.MethodName) prog_1_method_18_code (9 : Nat) (Option.some Jvm.ClassFile.FieldType.int), Jvm.Cond.code ({ cls := "CyclicExecutive", name := "findMiss", desc := "()I" } : Jvm.MethodName) prog_1_method_19_code (8 : Nat) (Option.some Jvm.ClassFile.FieldType.int), Jvm.Cond.code ({ cls := "CyclicExecutive", name := "getFrame", desc := "()I" } : Jvm.MethodName) prog_1_method_20_code (1 : Nat) (Option.some Jvm.ClassFile.FieldType.int), Jvm.Cond.code ({ cls := "CyclicExecutive", name := "getHyperperiod", desc := "()I" } : Jvm.MethodName) prog_1_method_8_code (1 : Nat) (Option.some Jvm.ClassFile.FieldType.int), Jvm.Cond.code ({ cls := "CyclicExecutive", name := "getTaskCount", desc := "()I" } : Jvm.MethodName) prog_1_method_7_code (1 : Nat) (Option.some Jvm.ClassFile.FieldType.int), Jvm.Cond.code ({ cls := "CyclicExecutive", name := "getNow", desc := "()I" } : Jvm.MethodName) prog_1_method_27_code (1 : Nat) (Option.some Jvm.ClassFile.FieldType.int), Jvm.Cond.code ({ cls := "CyclicExecutive", name := "getMiss", desc := "()I" } : Jvm.MethodName) prog_1_method_25_code (1 : Nat) (Option.some Jvm.ClassFile.FieldType.int), Jvm.Cond.code ({ cls := "CyclicExecutiveL7", name := "tableSum", desc := "(LCyclicExecutive;I)J" } : Jvm.MethodName) method_2_code (5 : Nat) (Option.some Jvm.ClassFile.FieldType.long), Jvm.Cond.code ({ cls := "CyclicExecutive", name := "getTickTask", desc := "(I)I" } : Jvm.MethodName) prog_1_method_22_code (2 : Nat) (Option.some Jvm.ClassFile.FieldType.int), Jvm.Cond.code ({ cls := "CyclicExecutive", name := "validTick", desc := "(I)Z" } : Jvm.MethodName) prog_1_method_21_code (2 : Nat) (Option.some Jvm.ClassFile.FieldType.boolean), Jvm.Cond.code ({ cls := "CyclicExecutive", name := "getTickJob", desc := "(I)I" } : Jvm.MethodName) prog_1_method_23_code (2 : Nat) (Option.some Jvm.ClassFile.FieldType.int), Jvm.Cond.code ({ cls := "CyclicExecutiveL7", name := "runSum", desc := "(LCyclicExecutive;I)J" } : Jvm.MethodName) method_3_code (5 : Nat) (Option.some Jvm.ClassFile.FieldType.long), Jvm.Cond.code ({ cls := "CyclicExecutive", name := "getRunTicks", desc := "(I)I" } : Jvm.MethodName) prog_1_method_28_code (2 : Nat) (Option.some Jvm.ClassFile.FieldType.int), Jvm.Cond.code ({ cls := "CyclicExecutiveL7", name := "cycleSum", desc := "(LCyclicExecutive;II)J" } : Jvm.MethodName) method_4_code (7 : Nat) (Option.some Jvm.ClassFile.FieldType.long)]
set_option maxRecDepth 65536 in
theorem codes_eq : words1.filter isCode = codes1 := rfl
theorem w_codes : ∀ c ∈ words1.filter isCode, c.before args0 about1 = true := by
  rw [codes_eq]
  intro c hc
  simp only [codes1, List.mem_cons, List.not_mem_nil, or_false] at hc
  rcases hc with rfl | rfl | rfl | rfl | rfl | rfl | rfl | rfl | rfl | rfl | rfl | rfl | rfl | rfl | rfl | rfl | rfl | rfl | rfl | rfl | rfl | rfl | rfl | rfl | rfl | rfl | rfl | rfl
  · exact w_c0
  · exact w_c1
  · exact w_c2
  · exact w_c3
  · exact w_c4
  · exact w_c5
  · exact w_c6
  · exact w_c7
  · exact w_c8
  · exact w_c9
  · exact w_c10
  · exact w_c11
  · exact w_c12
  · exact w_c13
  · exact w_c14
  · exact w_c15
  · exact w_c16
  · exact w_c17
  · exact w_c18
  · exact w_c19
  · exact w_c20
  · exact w_c21
  · exact w_c22
  · exact w_c23
  · exact w_c24
  · exact w_c25
  · exact w_c26
  · exact w_c27
set_option maxRecDepth 65536 in
theorem w_t1 : (words1.take 24).all (fun c => isCode c || c.before args0 about1) = true := by decide +kernel
set_option maxRecDepth 65536 in
theorem w_t2 : ((words1.drop 24).take 24).all (fun c => isCode c || c.before args0 about1) = true := by decide +kernel
set_option maxRecDepth 65536 in
theorem w_t3 : (((words1.drop 24).drop 24).take 24).all (fun c => isCode c || c.before args0 about1) = true := by decide +kernel
set_option maxRecDepth 65536 in
theorem w_t4 : ((((words1.drop 24).drop 24).drop 24).take 24).all (fun c => isCode c || c.before args0 about1) = true := by decide +kernel
set_option maxRecDepth 65536 in
theorem w_t5 : (((((words1.drop 24).drop 24).drop 24).drop 24).take 24).all (fun c => isCode c || c.before args0 about1) = true := by decide +kernel
set_option maxRecDepth 65536 in
theorem w_t6 : ((((((words1.drop 24).drop 24).drop 24).drop 24).drop 24).take 24).all (fun c => isCode c || c.before args0 about1) = true := by decide +kernel
set_option maxRecDepth 65536 in
theorem w_t7 : ((((((words1.drop 24).drop 24).drop 24).drop 24).drop 24).drop 24).all (fun c => isCode c || c.before args0 about1) = true := by decide +kernel
theorem w_tables : (allAtoms (Jvm.Cond.code x code maxLocals ret :: tables_1)).before args0 about1 = true := by
  rw [allAtoms_all]
  show words1.all (fun c => c.before args0 about1) = true
  refine all_split ?_ w_codes
  rw [← List.take_append_drop 24 words1, List.all_append, w_t1, ← List.take_append_drop 24 (words1.drop 24), List.all_append, w_t2, ← List.take_append_drop 24 ((words1.drop 24).drop 24), List.all_append, w_t3, ← List.take_append_drop 24 (((words1.drop 24).drop 24).drop 24), List.all_append, w_t4, ← List.take_append_drop 24 ((((words1.drop 24).drop 24).drop 24).drop 24), List.all_append, w_t5, ← List.take_append_drop 24 (((((words1.drop 24).drop 24).drop 24).drop 24).drop 24), List.all_append, w_t6, w_t7]
  rfl
set_option maxRecDepth 65536 in
theorem w_rest : rest_1_c.before args0 about1 = true := by decide +kernel
set_option maxRecDepth 65536 in
theorem w_case : (Jvm.Cond.and given_1 narrow_1).before args0 about1 = true := by decide +kernel
theorem w_applies : (headSpec (Jvm.Cond.code x code maxLocals ret :: tables_1) room_1).applies x e0.platform about1 = true :=
  (Spec.applies_iff w_frames).mpr ⟨w_running, w_runnable, w_alone, w_named, w_hears, w_ripe, w_room, w_tables⟩
theorem atStart : AtStart classFile x code maxLocals ret World_1 tables_1 room_1 Calls_1 rest_1 Pre_1 launch0 p0 e0 about1 theMethod args0 below0 :=
  ⟨lists_1, trivial, launch0.admits_env _ _ _, launch0.least_env, fairChoices_fair.cas, fairChoices_fair.clock, w_frames, w_args, w_heap, w_applies, trivial, w_rest, w_case⟩
end start1
theorem witness_1 : WitnessClaimed_1 := ⟨start1.p0, start1.e0, start1.about1, start1.theMethod, start1.args0, start1.below0, start1.atStart⟩
end Jvm.Pilot.@@N@@
