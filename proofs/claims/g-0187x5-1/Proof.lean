import JvmDerived
import JvmDerived.Pilot.@@N@@Statement
import JvmDerived.Pilot.@@N@@Code
set_option linter.unusedVariables false
set_option linter.unusedSimpArgs false
namespace Jvm.RoadKit
open Sem ClassFile Op Lib Jvm.Stand Jvm.Free Jvm.LawKit
section New
variable {p : Program} {l : Launch} {e : Env} {R : Room} {s : State} {m : MethodId} {args : Array Value} {below : List Frame} {meth : Method} {c : Code} {T : State} {locs : List Loc} {cells slots : Nat}
theorem retI (X : Stand p l e R s m args below meth c T locs cells slots) (hx : p.tables.exec = Jvm.exec) {pc : Nat} {Ls : Array Slot} {z : Int32} {rest : List Value} (hret : meth.sig.returnType = some .int) (hd : decode c.code pc = .ok (.ireturn, 1)) {fs : List Frame}
    (hl : ∀ (f : JFrame) (acts : List Action), f.method = m → f.locked = none → f.entered = [] → (doReturn e (T.setTop f) acts (some (.int z))).1 = T.setFrames fs) : Steps p.tables e below (T.setTop (mkF m pc Ls (.int z :: rest))) (T.setFrames fs) := by
  have hm' : T.vm.method? m = some meth := X.method'
  have hn : narrow .int (.int z) = .int z := rfl
  show Steps p.tables e below (T.setTop { method := m, pc := pc, locals := Ls, stack := _ :: rest, locked := none }) _
  jvm_step X.here [X.here.top, hx, hd, hm', hret, hn]
  first | (intro acts; rw [hl _ acts rfl rfl rfl]) | rw [hl _ _ rfl rfl rfl]
  exact Steps.refl _
end New
end Jvm.RoadKit
namespace Jvm.Own
open Jvm Jvm.ClassFile Sem Op Lib Jvm.Free Jvm.Stand Jvm.LawKit Jvm.RoadKit
/-! ## 1. Local variables: what the walk knows of them (L) and what they are (r) -/
def rv (ρ : Nat → Addr) : Value → Value
  | .ref k => .ref (ρ k)
  | .int x => .int x
  | .long x => .long x
  | .float x => .float x
  | .double x => .double x
  | .null => .null
  | .retAddr x => .retAddr x
def rs (ρ : Nat → Addr) : Slot → Slot
  | .val v => .val (rv ρ v)
  | .unset => .unset
  | .second => .second
theorem rv_cat (ρ : Nat → Addr) (v : Value) : (rv ρ v).category = v.category := by cases v <;> rfl
def WR (f : Nat → Option Slot) : Prop := (∀ i v, f i = some (.val v) → v.category = 2 → f (i + 1) = some .second) ∧ (∀ i, f i = some .second → ∃ j v, i = j + 1 ∧ f j = some (.val v) ∧ v.category = 2)
def up (f : Nat → Option Slot) (i : Nat) (x : Slot) : Nat → Option Slot := fun k => if k = i then some x else f k
def C1 (s : Option Slot) : Prop := s = some .unset ∨ ∃ w, s = some (.val w) ∧ w.category = 1
theorem C1.not2 {s : Option Slot} (h : C1 s) : s ≠ some .second ∧ ∀ v, s = some (.val v) → v.category ≠ 2 := by
  rcases h with rfl | ⟨w, rfl, h⟩
  · exact ⟨nofun, nofun⟩
  · exact ⟨nofun, fun v e q => by cases e; omega⟩
theorem up_at (f : Nat → Option Slot) (i : Nat) (x : Slot) : up f i x i = some x := by simp [up]
theorem up_ne (f : Nat → Option Slot) {i k : Nat} (x : Slot) (h : k ≠ i) : up f i x k = f k := by simp [up, h]
theorem WR.one {f : Nat → Option Slot} {i : Nat} {x : Slot} (h : WR f) (hi : C1 (f i)) (hx : C1 (some x)) : WR (up f i x) := by
  obtain ⟨n1, n2⟩ := hi.not2
  obtain ⟨m1, m2⟩ := hx.not2
  constructor
  · intro k v hk hv
    by_cases e : k = i
    · subst e; rw [up_at] at hk; exact absurd hv (m2 v hk)
    · rw [up_ne _ _ e] at hk
      have q := h.1 k v hk hv
      by_cases e2 : k + 1 = i
      · rw [e2] at q; exact absurd q n1
      · rw [up_ne _ _ e2]; exact q
  · intro k hk
    by_cases e : k = i
    · subst e; rw [up_at] at hk; exact absurd hk m1
    · rw [up_ne _ _ e] at hk
      obtain ⟨j, v, e1, e2, e3⟩ := h.2 k hk
      refine ⟨j, v, e1, ?_, e3⟩
      by_cases e4 : j = i
      · rw [e4] at e2; exact absurd e3 (n2 v e2)
      · rw [up_ne _ _ e4]; exact e2
theorem WR.clr {f : Nat → Option Slot} {j : Nat} {v : Value} (h : WR f) (hj : f j = some (.val v)) (hv : v.category = 2) : WR (up (up f j .unset) (j + 1) .unset) := by
  have q := h.1 j v hj hv
  constructor
  · intro k w hk hw
    by_cases e : k = j + 1
    · subst e; rw [up_at] at hk; cases hk
    · rw [up_ne _ _ e] at hk
      by_cases e2 : k = j
      · subst e2; rw [up_at] at hk; cases hk
      · rw [up_ne _ _ e2] at hk
        have q2 := h.1 k w hk hw
        by_cases e3 : k + 1 = j
        · rw [e3] at q2; rw [hj] at q2; cases q2
        · rw [up_ne _ _ (show k + 1 ≠ j + 1 by omega), up_ne _ _ e3]; exact q2
  · intro k hk
    by_cases e : k = j + 1
    · subst e; rw [up_at] at hk; cases hk
    · rw [up_ne _ _ e] at hk
      by_cases e2 : k = j
      · subst e2; rw [up_at] at hk; cases hk
      · rw [up_ne _ _ e2] at hk
        obtain ⟨i, w, e3, e4, e5⟩ := h.2 k hk
        refine ⟨i, w, e3, ?_, e5⟩
        by_cases e6 : i = j + 1
        · rw [e6, q] at e4; cases e4
        · rw [up_ne _ _ e6, up_ne _ _ (show i ≠ j by omega)]; exact e4
theorem WR.two {f : Nat → Option Slot} {i : Nat} {v : Value} (h : WR f) (h1 : C1 (f i)) (h2 : C1 (f (i + 1))) (hv : v.category = 2) : WR (up (up f i (.val v)) (i + 1) .second) := by
  obtain ⟨n1, n2⟩ := h1.not2
  obtain ⟨m1, m2⟩ := h2.not2
  constructor
  · intro k w hk hw
    by_cases e : k = i + 1
    · subst e; rw [up_at] at hk; cases hk
    · rw [up_ne _ _ e] at hk
      by_cases e2 : k = i
      · subst e2; exact up_at _ _ _
      · rw [up_ne _ _ e2] at hk
        have q := h.1 k w hk hw
        by_cases e3 : k + 1 = i
        · rw [e3] at q; exact absurd q n1
        · rw [up_ne _ _ (show k + 1 ≠ i + 1 by omega), up_ne _ _ e3]; exact q
  · intro k hk
    by_cases e : k = i + 1
    · exact ⟨i, v, e, by rw [up_ne _ _ (show i ≠ i + 1 by omega), up_at], hv⟩
    · rw [up_ne _ _ e] at hk
      by_cases e2 : k = i
      · subst e2; rw [up_at] at hk; cases hk
      · rw [up_ne _ _ e2] at hk
        obtain ⟨j, w, e3, e4, e5⟩ := h.2 k hk
        refine ⟨j, w, e3, ?_, e5⟩
        by_cases e6 : j = i + 1
        · rw [e6] at e4; exact absurd e5 (m2 w e4)
        · by_cases e7 : j = i
          · omega
          · rw [up_ne _ _ e6, up_ne _ _ e7]; exact e4
theorem up_arr {r : Array Slot} {i : Nat} (hi : i < r.size) (x : Slot) : (fun k => (r.setIfInBounds i x)[k]?) = up (fun k => r[k]?) i x := by
  funext k
  show (r.setIfInBounds i x)[k]? = _
  rw [Array.getElem?_setIfInBounds]
  by_cases e : i = k
  · subst e; simp [up, hi]
  · rw [if_neg e, up_ne _ _ (Ne.symm e)]
theorem up_lst {L : List Slot} {i : Nat} (hi : i < L.length) (x : Slot) : (fun k => (L.set i x)[k]?) = up (fun k => L[k]?) i x := by
  funext k
  show (L.set i x)[k]? = _
  rw [List.getElem?_set]
  by_cases e : i = k
  · subst e; simp [up, hi]
  · rw [if_neg e, up_ne _ _ (Ne.symm e)]
def SR (ρ : Nat → Addr) (L : List Slot) (r : Array Slot) : Prop :=
  r.size = L.length ∧ (∀ (i : Nat) (v : Value), L[i]? = some (.val v) → r[i]? = some (.val (rv ρ v))) ∧ (∀ (i : Nat), L[i]? = some .second → r[i]? = some .second) ∧ WR (fun k => L[k]?) ∧ WR (fun k => r[k]?)
theorem SR.get {ρ : Nat → Addr} {L : List Slot} {r : Array Slot} (h : SR ρ L r) {i : Nat} {v : Value} (e : L[i]? = some (.val v)) : r[i]? = some (.val (rv ρ v)) := h.2.1 i v e
/-- a store of one word over nothing or one word -/
theorem SR.st1 {ρ : Nat → Addr} {L : List Slot} {r : Array Slot} {i : Nat} {v : Value} (h : SR ρ L r) (ho : C1 L[i]?) (hv : v.category = 1) :
    ∃ r', storeLocals r i (rv ρ v) = some r' ∧ SR ρ (L.set i (.val v)) r' := by
  obtain ⟨h1, h2, h3, h4, h5⟩ := h
  have hi : i < L.length := by
    rcases ho with h | ⟨w, h, -⟩ <;> exact (List.getElem?_eq_some_iff.mp h).1
  have hir : i < r.size := by omega
  have hcv : (rv ρ v).category = 1 := by rw [rv_cat]; exact hv
  have hcx : C1 (some (Slot.val (rv ρ v))) := Or.inr ⟨_, rfl, hcv⟩
  obtain ⟨n1, n2⟩ := ho.not2
  have fin : ∀ r' : Array Slot, r'.size = r.size → WR (fun k => r'[k]?) → r'[i]? = some (.val (rv ρ v)) → (∀ k, k ≠ i → r'[k]? = r[k]? ∨ ∀ s, L[k]? = some s → s = .unset) → SR ρ (L.set i (.val v)) r' := by
    intro r' a1 a2 a3 a4
    refine ⟨by rw [a1, h1, List.length_set], ?_, ?_, by rw [up_lst hi]; exact h4.one ho (Or.inr ⟨v, rfl, hv⟩), a2⟩
    · intro k w hk
      rw [List.getElem?_set] at hk
      by_cases e : i = k
      · subst e; simp [hi] at hk; subst hk; exact a3
      · rw [if_neg e] at hk
        rcases a4 k (Ne.symm e) with q | q
        · rw [q]; exact h2 k w hk
        · cases q _ hk
    · intro k hk
      rw [List.getElem?_set] at hk
      by_cases e : i = k
      · subst e; simp [hi] at hk
      · rw [if_neg e] at hk
        rcases a4 k (Ne.symm e) with q | q
        · rw [q]; exact h3 k hk
        · cases q _ hk
  obtain ⟨q, hq⟩ : ∃ q, r[i]? = some q := ⟨_, Array.getElem?_eq_getElem hir⟩
  have plain : C1 (r[i]?) → ∃ r', storeLocals r i (rv ρ v) = some r' ∧ SR ρ (L.set i (.val v)) r' := by
    intro hC
    have hs : storeLocals r i (rv ρ v) = some (r.setIfInBounds i (.val (rv ρ v))) := by
      rcases hC with e | ⟨w, e, hw⟩
      · exact XS.store1 e (Or.inl rfl) hcv
      · exact XS.store1 e (Or.inr ⟨w, rfl, hw⟩) hcv
    refine ⟨_, hs, fin _ (by simp) (by rw [up_arr hir]; exact h5.one hC hcx) (by simp [hir]) ?_⟩
    intro k hk
    exact Or.inl (Array.getElem?_setIfInBounds_ne (Ne.symm hk))
  cases q with
  | unset => exact plain (Or.inl hq)
  | val w =>
    by_cases hw : w.category = 2
    · have q2 := h5.1 i w hq hw
      have hj : i + 1 < r.size := (Array.getElem?_eq_some_iff.mp q2).1
      have Lu : ∀ k, (k = i ∨ k = i + 1) → ∀ s, L[k]? = some s → s = .unset := by
        intro k hk s hs
        cases s with
        | unset => rfl
        | second =>
          rcases hk with rfl | rfl
          · exact absurd hs n1
          · obtain ⟨j, u, e1, e2, e3⟩ := h4.2 _ hs
            have : j = i := by omega
            subst this
            exact absurd e3 (n2 u e2)
        | val u =>
          rcases hk with rfl | rfl
          · have := h2 _ _ hs
            rw [hq] at this
            cases this
            rw [rv_cat] at hw
            exact absurd hw (n2 u hs)
          · have := h2 _ _ hs
            have q3 : r[i + 1]? = some .second := q2
            rw [q3] at this; cases this
      have hs : storeLocals r i (rv ρ v) = some ((r.setIfInBounds (i + 1) .unset).setIfInBounds i (.val (rv ρ v))) := by
        simp [storeLocals, storeSelf, setAt, hq, (Array.getElem?_eq_some_iff.mp hq).2, hw, hj, hir, hcv]
      refine ⟨_, hs, fin _ (by simp) ?_ (by simp [hir]) ?_⟩
      · have e : (fun k => ((r.setIfInBounds (i + 1) .unset).setIfInBounds i (.val (rv ρ v)))[k]?) = up (up (up (fun k => r[k]?) i .unset) (i + 1) .unset) i (.val (rv ρ v)) := by
          rw [up_arr (by simpa using hir), up_arr hj]
          funext k
          simp only [up]
          by_cases e : k = i
          · simp [e]
          · simp [e]
        rw [e]
        exact (h5.clr hq hw).one (Or.inl (by simp [up])) hcx
      · intro k hk
        by_cases e : k = i + 1
        · exact Or.inr (Lu k (Or.inr e))
        · left
          rw [Array.getElem?_setIfInBounds_ne (Ne.symm hk), Array.getElem?_setIfInBounds_ne (Ne.symm e)]
    · refine plain (Or.inr ⟨w, hq, ?_⟩)
      cases w <;> simp [Value.category] at hw ⊢
  | second =>
    obtain ⟨j, u, e1, e2, e3⟩ := h5.2 i hq
    subst e1
    have e2' : r[j]? = some (.val u) := e2
    have hj : j < r.size := by omega
    have Lu : ∀ s, L[j]? = some s → s = .unset := by
      intro s hs
      cases s with
      | unset => rfl
      | second => have := h3 _ hs; rw [e2'] at this; cases this
      | val w =>
        have := h2 _ _ hs
        rw [e2'] at this
        cases this
        rw [rv_cat] at e3
        exact absurd (h4.1 j w hs e3) n1
    have hs : storeLocals r (j + 1) (rv ρ v) = some ((r.setIfInBounds j .unset).setIfInBounds (j + 1) (.val (rv ρ v))) := by
      simp [storeLocals, storeSelf, setAt, hq, (Array.getElem?_eq_some_iff.mp hq).2, hj, hir, hcv]
    refine ⟨_, hs, fin _ (by simp) ?_ (by simp [hir]) ?_⟩
    · have e : (fun k => ((r.setIfInBounds j .unset).setIfInBounds (j + 1) (.val (rv ρ v)))[k]?) = up (up (up (fun k => r[k]?) j .unset) (j + 1) .unset) (j + 1) (.val (rv ρ v)) := by
        rw [up_arr (by simpa using hir), up_arr hj]
        funext k
        simp only [up]
        by_cases e : k = j + 1
        · simp [e]
        · simp [e]
      rw [e]
      exact (h5.clr e2 e3).one (Or.inl (by simp [up])) hcx
    · intro k hk
      by_cases e : k = j
      · subst e; exact Or.inr Lu
      · left
        rw [Array.getElem?_setIfInBounds_ne (Ne.symm hk), Array.getElem?_setIfInBounds_ne (Ne.symm e)]
end Jvm.Own

namespace Jvm.Own
open Jvm Jvm.ClassFile Sem Op Lib Jvm.Free Jvm.Stand Jvm.LawKit Jvm.RoadKit
theorem cat12 (w : Value) (h : ¬ w.category = 2) : w.category = 1 := by cases w <;> simp [Value.category] at h ⊢
theorem getset_ne {r : Array Slot} {i k : Nat} {x t : Slot} (h : r[k]? = some t) (ne : i ≠ k) (hk : k < (r.setIfInBounds i x).size) : (r.setIfInBounds i x)[k] = t := by
  have q : (r.setIfInBounds i x)[k]? = some t := by rw [Array.getElem?_setIfInBounds_ne ne]; exact h
  exact (Array.getElem?_eq_some_iff.mp q).2
/-- a store of two words over nothing or single words -/
theorem SR.st2 {ρ : Nat → Addr} {L : List Slot} {r : Array Slot} {i : Nat} {v : Value} (h : SR ρ L r) (ho : C1 L[i]?) (ho' : C1 L[i + 1]?) (hv : v.category = 2) :
    ∃ r', storeLocals r i (rv ρ v) = some r' ∧ SR ρ ((L.set i (.val v)).set (i + 1) .second) r' := by
  obtain ⟨h1, h2, h3, h4, h5⟩ := h
  have hi : i + 1 < L.length := by
    rcases ho' with h | ⟨w, h, -⟩ <;> exact (List.getElem?_eq_some_iff.mp h).1
  have hir1 : i + 1 < r.size := by omega
  have hir : i < r.size := by omega
  have hcv : (rv ρ v).category = 2 := by rw [rv_cat]; exact hv
  obtain ⟨n1, n2⟩ := ho.not2
  obtain ⟨m1, m2⟩ := ho'.not2
  have nr : ∀ w, r[i]? = some (.val w) → ∀ u, L[i]? = some (.val u) → w.category = 2 → False := by
    intro w hw u hu hc
    have := h2 _ _ hu
    rw [hw] at this; cases this
    rw [rv_cat] at hc
    exact n2 u hu hc
  have fin : ∀ r' : Array Slot, r'.size = r.size → WR (fun k => r'[k]?) → r'[i]? = some (.val (rv ρ v)) → r'[i + 1]? = some .second → (∀ k, k ≠ i → k ≠ i + 1 → r'[k]? = r[k]? ∨ ∀ s, L[k]? = some s → s = .unset) → SR ρ ((L.set i (.val v)).set (i + 1) .second) r' := by
    intro r' a1 a2 a3 a3' a4
    refine ⟨by rw [a1, h1]; simp, ?_, ?_, by rw [up_lst (by simpa using hi), up_lst (by omega)]; exact h4.two ho ho' hv, a2⟩
    · intro k w hk
      rw [List.getElem?_set] at hk
      by_cases e : i + 1 = k
      · subst e; simp [hi] at hk
      · rw [if_neg e, List.getElem?_set] at hk
        by_cases e2 : i = k
        · subst e2; simp [show i < L.length by omega] at hk; subst hk; exact a3
        · rw [if_neg e2] at hk
          rcases a4 k (Ne.symm e2) (Ne.symm e) with q | q
          · rw [q]; exact h2 k w hk
          · cases q _ hk
    · intro k hk
      rw [List.getElem?_set] at hk
      by_cases e : i + 1 = k
      · subst e; exact a3'
      · rw [if_neg e, List.getElem?_set] at hk
        by_cases e2 : i = k
        · subst e2; simp [show i < L.length by omega] at hk
        · rw [if_neg e2] at hk
          rcases a4 k (Ne.symm e2) (Ne.symm e) with q | q
          · rw [q]; exact h3 k hk
          · cases q _ hk
  have Lun2 : ∀ u, r[i + 1]? = some (.val u) → u.category = 2 → ∀ s, L[i + 2]? = some s → s = .unset := by
    intro u hu hc s hs
    have q2 : r[i + 2]? = some .second := h5.1 (i + 1) u hu hc
    cases s with
    | unset => rfl
    | second =>
      obtain ⟨j, w, e1, e2, e3⟩ := h4.2 _ hs
      have : j = i + 1 := by omega
      subst this
      exact absurd e3 (m2 w e2)
    | val w => have := h2 _ _ hs; rw [q2] at this; cases this
  obtain ⟨q, hq⟩ : ∃ q, r[i]? = some q := ⟨_, Array.getElem?_eq_getElem hir⟩
  obtain ⟨q1, hq1⟩ : ∃ q, r[i + 1]? = some q := ⟨_, Array.getElem?_eq_getElem hir1⟩
  have ne1 : i + 1 ≠ i := by omega
  cases q with
  | unset =>
    have hC : C1 (r[i]?) := Or.inl hq
    cases q1 with
    | unset =>
      refine ⟨(r.setIfInBounds i (.val (rv ρ v))).setIfInBounds (i + 1) .second, by simp [storeLocals, storeSelf, setAt, hq, (Array.getElem?_eq_some_iff.mp hq).2, hq1, (Array.getElem?_eq_some_iff.mp hq1).2, hir, hir1, hcv, Array.getElem?_setIfInBounds], fin _ (by simp) ?_ (by simp [hir, Array.getElem?_setIfInBounds]) (by simp [hir1]) ?_⟩
      · rw [up_arr (by simpa using hir1), up_arr hir]; exact h5.two hC (Or.inl hq1) hcv
      · intro k a b; left; rw [Array.getElem?_setIfInBounds_ne (Ne.symm b), Array.getElem?_setIfInBounds_ne (Ne.symm a)]
    | second => obtain ⟨j, w, e1, e2, e3⟩ := h5.2 _ hq1; have : j = i := by omega
                subst this; have e2' : r[j]? = some (.val w) := e2; rw [hq] at e2'; cases e2'
    | val u =>
      by_cases hu : u.category = 2
      · have q2 : r[i + 2]? = some .second := h5.1 (i + 1) u hq1 hu
        have hi2 : i + 2 < r.size := (Array.getElem?_eq_some_iff.mp q2).1
        refine ⟨((r.setIfInBounds i (.val (rv ρ v))).setIfInBounds (i + 2) .unset).setIfInBounds (i + 1) .second, by simp [storeLocals, storeSelf, setAt, hq, (Array.getElem?_eq_some_iff.mp hq).2, hq1, (Array.getElem?_eq_some_iff.mp hq1).2, hir, hir1, hi2, hcv, hu, Array.getElem?_setIfInBounds], fin _ (by simp) ?_ (by simp [hir, Array.getElem?_setIfInBounds]) (by simp [hir1]) ?_⟩
        · have e : (fun k => (((r.setIfInBounds i (.val (rv ρ v))).setIfInBounds (i + 2) .unset).setIfInBounds (i + 1) .second)[k]?) = up (up (up (up (fun k => r[k]?) (i + 1) .unset) (i + 2) .unset) i (.val (rv ρ v))) (i + 1) .second := by
            rw [up_arr (by simpa using hir1), up_arr (by simpa using hi2), up_arr hir]
            funext k
            simp only [up]
            by_cases e : k = i + 1
            · simp [e]
            · by_cases e2 : k = i
              · simp [e2]
              · simp [e, e2]
          rw [e]
          exact (h5.clr hq1 hu).two (Or.inl (by simp [up, hq] <;> omega)) (Or.inl (by simp [up] <;> omega)) hcv
        · intro k a b
          by_cases e : k = i + 2
          · subst e; exact Or.inr (Lun2 u hq1 hu)
          · left; rw [Array.getElem?_setIfInBounds_ne (Ne.symm b), Array.getElem?_setIfInBounds_ne (Ne.symm e), Array.getElem?_setIfInBounds_ne (Ne.symm a)]
      · refine ⟨(r.setIfInBounds i (.val (rv ρ v))).setIfInBounds (i + 1) .second, by simp [storeLocals, storeSelf, setAt, hq, (Array.getElem?_eq_some_iff.mp hq).2, hq1, (Array.getElem?_eq_some_iff.mp hq1).2, hir, hir1, hcv, hu, Array.getElem?_setIfInBounds], fin _ (by simp) ?_ (by simp [hir, Array.getElem?_setIfInBounds]) (by simp [hir1]) ?_⟩
        · rw [up_arr (by simpa using hir1), up_arr hir]; exact h5.two hC (Or.inr ⟨u, hq1, cat12 u hu⟩) hcv
        · intro k a b; left; rw [Array.getElem?_setIfInBounds_ne (Ne.symm b), Array.getElem?_setIfInBounds_ne (Ne.symm a)]
  | val w =>
    by_cases hw : w.category = 2
    · have q2 : r[i + 1]? = some .second := h5.1 i w hq hw
      have Lu : ∀ s, L[i]? = some s → s = .unset := by
        intro s hs
        cases s with
        | unset => rfl
        | second => exact absurd hs n1
        | val u => exact (nr w hq u hs hw).elim
      refine ⟨((r.setIfInBounds (i + 1) .unset).setIfInBounds i (.val (rv ρ v))).setIfInBounds (i + 1) .second, by simp [storeLocals, storeSelf, setAt, hq, (Array.getElem?_eq_some_iff.mp hq).2, hw, hir, hir1, hcv, Array.getElem?_setIfInBounds], fin _ (by simp) ?_ (by simp [hir, Array.getElem?_setIfInBounds]) (by simp [hir1]) ?_⟩
      · have e : (fun k => (((r.setIfInBounds (i + 1) .unset).setIfInBounds i (.val (rv ρ v))).setIfInBounds (i + 1) .second)[k]?) = up (up (up (up (fun k => r[k]?) i .unset) (i + 1) .unset) i (.val (rv ρ v))) (i + 1) .second := by
          rw [up_arr (by simpa using hir1), up_arr (by simpa using hir), up_arr hir1]
          funext k
          simp only [up]
          by_cases e : k = i + 1
          · simp [e]
          · by_cases e2 : k = i
            · simp [e2]
            · simp [e, e2]
        rw [e]
        exact (h5.clr hq hw).two (Or.inl (by simp [up] <;> omega)) (Or.inl (by simp [up] <;> omega)) hcv
      · intro k a b
        left; rw [Array.getElem?_setIfInBounds_ne (Ne.symm b), Array.getElem?_setIfInBounds_ne (Ne.symm a), Array.getElem?_setIfInBounds_ne (Ne.symm b)]
    · have hC : C1 (r[i]?) := Or.inr ⟨w, hq, cat12 w hw⟩
      cases q1 with
      | unset =>
        refine ⟨(r.setIfInBounds i (.val (rv ρ v))).setIfInBounds (i + 1) .second, by simp [storeLocals, storeSelf, setAt, hq, (Array.getElem?_eq_some_iff.mp hq).2, hq1, (Array.getElem?_eq_some_iff.mp hq1).2, hw, hir, hir1, hcv, Array.getElem?_setIfInBounds], fin _ (by simp) ?_ (by simp [hir, Array.getElem?_setIfInBounds]) (by simp [hir1]) ?_⟩
        · rw [up_arr (by simpa using hir1), up_arr hir]; exact h5.two hC (Or.inl hq1) hcv
        · intro k a b; left; rw [Array.getElem?_setIfInBounds_ne (Ne.symm b), Array.getElem?_setIfInBounds_ne (Ne.symm a)]
      | second => obtain ⟨j, u, e1, e2, e3⟩ := h5.2 _ hq1; have : j = i := by omega
                  subst this; have e2' : r[j]? = some (.val u) := e2; rw [hq] at e2'; cases e2'; exact absurd e3 hw
      | val u =>
        by_cases hu : u.category = 2
        · have q2 : r[i + 2]? = some .second := h5.1 (i + 1) u hq1 hu
          have hi2 : i + 2 < r.size := (Array.getElem?_eq_some_iff.mp q2).1
          refine ⟨((r.setIfInBounds i (.val (rv ρ v))).setIfInBounds (i + 2) .unset).setIfInBounds (i + 1) .second, by simp [storeLocals, storeSelf, setAt, hq, (Array.getElem?_eq_some_iff.mp hq).2, hq1, (Array.getElem?_eq_some_iff.mp hq1).2, hw, hir, hir1, hi2, hcv, hu, Array.getElem?_setIfInBounds], fin _ (by simp) ?_ (by simp [hir, Array.getElem?_setIfInBounds]) (by simp [hir1]) ?_⟩
          · have e : (fun k => (((r.setIfInBounds i (.val (rv ρ v))).setIfInBounds (i + 2) .unset).setIfInBounds (i + 1) .second)[k]?) = up (up (up (up (fun k => r[k]?) (i + 1) .unset) (i + 2) .unset) i (.val (rv ρ v))) (i + 1) .second := by
              rw [up_arr (by simpa using hir1), up_arr (by simpa using hi2), up_arr hir]
              funext k
              simp only [up]
              by_cases e : k = i + 1
              · simp [e]
              · by_cases e2 : k = i
                · simp [e2]
                · simp [e, e2]
            rw [e]
            exact (h5.clr hq1 hu).two (Or.inr ⟨w, by simp [up, hq] <;> omega, cat12 w hw⟩) (Or.inl (by simp [up] <;> omega)) hcv
          · intro k a b
            by_cases e : k = i + 2
            · subst e; exact Or.inr (Lun2 u hq1 hu)
            · left; rw [Array.getElem?_setIfInBounds_ne (Ne.symm b), Array.getElem?_setIfInBounds_ne (Ne.symm e), Array.getElem?_setIfInBounds_ne (Ne.symm a)]
        · refine ⟨(r.setIfInBounds i (.val (rv ρ v))).setIfInBounds (i + 1) .second, by simp [storeLocals, storeSelf, setAt, hq, (Array.getElem?_eq_some_iff.mp hq).2, hq1, (Array.getElem?_eq_some_iff.mp hq1).2, hw, hir, hir1, hcv, hu, Array.getElem?_setIfInBounds], fin _ (by simp) ?_ (by simp [hir, Array.getElem?_setIfInBounds]) (by simp [hir1]) ?_⟩
          · rw [up_arr (by simpa using hir1), up_arr hir]; exact h5.two hC (Or.inr ⟨u, hq1, cat12 u hu⟩) hcv
          · intro k a b; left; rw [Array.getElem?_setIfInBounds_ne (Ne.symm b), Array.getElem?_setIfInBounds_ne (Ne.symm a)]
  | second =>
    obtain ⟨j, y, e1, e2, e3⟩ := h5.2 i hq
    subst e1
    have e2' : r[j]? = some (.val y) := e2
    have hj : j < r.size := by omega
    have Lu : ∀ s, L[j]? = some s → s = .unset := by
      intro s hs
      cases s with
      | unset => rfl
      | second => have := h3 _ hs; rw [e2'] at this; cases this
      | val w =>
        have := h2 _ _ hs
        rw [e2'] at this
        cases this
        rw [rv_cat] at e3
        exact absurd (h4.1 j w hs e3) n1
    have W5 := h5.clr e2 e3
    cases q1 with
    | unset =>
      refine ⟨((r.setIfInBounds j .unset).setIfInBounds (j + 1) (.val (rv ρ v))).setIfInBounds (j + 1 + 1) .second, by simp [storeLocals, storeSelf, setAt, hq, (Array.getElem?_eq_some_iff.mp hq).2, hq1, (Array.getElem?_eq_some_iff.mp hq1).2, getset_ne hq1 (show j ≠ j + 1 + 1 by omega), hj, hir, hir1, hcv, Array.getElem?_setIfInBounds], fin _ (by simp) ?_ (by simp [hir, Array.getElem?_setIfInBounds]) (by simp [hir1]) ?_⟩
      · have e : (fun k => (((r.setIfInBounds j .unset).setIfInBounds (j + 1) (.val (rv ρ v))).setIfInBounds (j + 1 + 1) .second)[k]?) = up (up (up (up (fun k => r[k]?) j .unset) (j + 1) .unset) (j + 1) (.val (rv ρ v))) (j + 1 + 1) .second := by
          rw [up_arr (by simpa using hir1), up_arr (by simpa using hir), up_arr hj]
          funext k
          simp only [up]
          by_cases e : k = j + 1 + 1
          · simp [e]
          · by_cases e2 : k = j + 1
            · simp [e2]
            · simp [e, e2]
        rw [e]
        exact W5.two (Or.inl (by simp [up] <;> omega)) (Or.inl (by simp [up, hq1] <;> omega)) hcv
      · intro k a b
        by_cases e : k = j
        · subst e; exact Or.inr Lu
        · left; rw [Array.getElem?_setIfInBounds_ne (Ne.symm b), Array.getElem?_setIfInBounds_ne (Ne.symm a), Array.getElem?_setIfInBounds_ne (Ne.symm e)]
    | second => obtain ⟨k, w, f1, f2, f3⟩ := h5.2 _ hq1; have : k = j + 1 := by omega
                subst this; have f2' : r[j + 1]? = some (.val w) := f2; rw [hq] at f2'; cases f2'
    | val u =>
      by_cases hu : u.category = 2
      · have q2 : r[j + 1 + 2]? = some .second := h5.1 (j + 1 + 1) u hq1 hu
        have hi2 : j + 1 + 2 < r.size := (Array.getElem?_eq_some_iff.mp q2).1
        refine ⟨(((r.setIfInBounds j .unset).setIfInBounds (j + 1) (.val (rv ρ v))).setIfInBounds (j + 1 + 2) .unset).setIfInBounds (j + 1 + 1) .second, by simp [storeLocals, storeSelf, setAt, hq, (Array.getElem?_eq_some_iff.mp hq).2, hq1, (Array.getElem?_eq_some_iff.mp hq1).2, getset_ne hq1 (show j ≠ j + 1 + 1 by omega), hj, hir, hir1, hi2, hcv, hu, Array.getElem?_setIfInBounds], fin _ (by simp) ?_ (by simp [hir, Array.getElem?_setIfInBounds]) (by simp [hir1]) ?_⟩
        · have e : (fun k => ((((r.setIfInBounds j .unset).setIfInBounds (j + 1) (.val (rv ρ v))).setIfInBounds (j + 1 + 2) .unset).setIfInBounds (j + 1 + 1) .second)[k]?) = up (up (up (up (up (up (fun k => r[k]?) j .unset) (j + 1) .unset) (j + 1 + 1) .unset) (j + 1 + 1 + 1) .unset) (j + 1) (.val (rv ρ v))) (j + 1 + 1) .second := by
            rw [up_arr (by simpa using hir1), up_arr (by simpa using hi2), up_arr (by simpa using hir), up_arr hj]
            funext k
            simp only [up]
            by_cases e : k = j + 1 + 1
            · simp [e]
            · by_cases e2 : k = j + 1
              · simp [e2]
              · simp [e, e2]
          rw [e]
          exact (W5.clr (j := j + 1 + 1) (v := u) (by simp [up, hq1] <;> omega) hu).two (Or.inl (by simp [up] <;> omega)) (Or.inl (by simp [up] <;> omega)) hcv
        · intro k a b
          by_cases e : k = j
          · subst e; exact Or.inr Lu
          · by_cases e4 : k = j + 1 + 2
            · subst e4; exact Or.inr (Lun2 u hq1 hu)
            · left; rw [Array.getElem?_setIfInBounds_ne (Ne.symm b), Array.getElem?_setIfInBounds_ne (Ne.symm e4), Array.getElem?_setIfInBounds_ne (Ne.symm a), Array.getElem?_setIfInBounds_ne (Ne.symm e)]
      · refine ⟨((r.setIfInBounds j .unset).setIfInBounds (j + 1) (.val (rv ρ v))).setIfInBounds (j + 1 + 1) .second, by simp [storeLocals, storeSelf, setAt, hq, (Array.getElem?_eq_some_iff.mp hq).2, hq1, (Array.getElem?_eq_some_iff.mp hq1).2, getset_ne hq1 (show j ≠ j + 1 + 1 by omega), hj, hir, hir1, hcv, hu, Array.getElem?_setIfInBounds], fin _ (by simp) ?_ (by simp [hir, Array.getElem?_setIfInBounds]) (by simp [hir1]) ?_⟩
        · have e : (fun k => (((r.setIfInBounds j .unset).setIfInBounds (j + 1) (.val (rv ρ v))).setIfInBounds (j + 1 + 1) .second)[k]?) = up (up (up (up (fun k => r[k]?) j .unset) (j + 1) .unset) (j + 1) (.val (rv ρ v))) (j + 1 + 1) .second := by
            rw [up_arr (by simpa using hir1), up_arr (by simpa using hir), up_arr hj]
            funext k
            simp only [up]
            by_cases e : k = j + 1 + 1
            · simp [e]
            · by_cases e2 : k = j + 1
              · simp [e2]
              · simp [e, e2]
          rw [e]
          exact W5.two (Or.inl (by simp [up] <;> omega)) (Or.inr ⟨u, by simp [up, hq1] <;> omega, cat12 u hu⟩) hcv
        · intro k a b
          by_cases e : k = j
          · subst e; exact Or.inr Lu
          · left; rw [Array.getElem?_setIfInBounds_ne (Ne.symm b), Array.getElem?_setIfInBounds_ne (Ne.symm a), Array.getElem?_setIfInBounds_ne (Ne.symm e)]
/-- which lists of slots are laid out well -/
def wfL : List Slot → Bool
  | [] => true
  | .unset :: t => wfL t
  | .second :: _ => false
  | [.val v] => decide (v.category = 1)
  | .val v :: .second :: t => decide (v.category = 2) && wfL t
  | .val v :: .unset :: t => decide (v.category = 1) && wfL t
  | .val v :: .val u :: t => decide (v.category = 1) && wfL (.val u :: t)
/-- the walk forgets the variables that the mask marks -/
def fg : List Bool → List Slot → List Slot
  | true :: b, _ :: t => .unset :: fg b t
  | false :: b, s :: t => s :: fg b t
  | _, t => t
theorem WR.nil : WR (fun k => ([] : List Slot)[k]?) := ⟨fun i v h => by simp at h, fun i h => by simp at h⟩
theorem WR.cons1 {t : List Slot} {s : Slot} (h : WR (fun k => t[k]?)) (hs : C1 (some s)) : WR (fun k => (s :: t)[k]?) := by
  obtain ⟨n1, n2⟩ := hs.not2
  constructor
  · intro i v hi hv
    cases i with
    | zero => exact absurd hv (n2 v (by simpa using hi))
    | succ i => have := h.1 i v (by simpa using hi) hv; simpa using this
  · intro i hi
    cases i with
    | zero => exact absurd (by simpa using hi) n1
    | succ i => obtain ⟨j, v, e1, e2, e3⟩ := h.2 i (by simpa using hi); exact ⟨j + 1, v, by omega, by simpa using e2, e3⟩
theorem WR.cons2 {t : List Slot} {w : Value} (h : WR (fun k => t[k]?)) (hw : w.category = 2) : WR (fun k => (Slot.val w :: .second :: t)[k]?) := by
  constructor
  · intro i v hi hv
    match i with
    | 0 => simp
    | 1 => simp at hi
    | i + 2 => have := h.1 i v (by simpa using hi) hv; simpa using this
  · intro i hi
    match i with
    | 0 => simp at hi
    | 1 => exact ⟨0, w, rfl, by simp, hw⟩
    | i + 2 => obtain ⟨j, v, e1, e2, e3⟩ := h.2 i (by simpa using hi); exact ⟨j + 2, v, by omega, by simpa using e2, e3⟩
theorem WR.of_wfL : (L : List Slot) → wfL L = true → WR (fun k => L[k]?)
  | [], _ => WR.nil
  | .unset :: t, h => (WR.of_wfL t h).cons1 (Or.inl rfl)
  | .second :: _, h => by simp [wfL] at h
  | [.val v], h => WR.nil.cons1 (Or.inr ⟨v, rfl, by simpa [wfL] using h⟩)
  | .val v :: .second :: t, h => by simp [wfL] at h; exact (WR.of_wfL t h.2).cons2 h.1
  | .val v :: .unset :: t, h => by simp [wfL] at h; exact ((WR.of_wfL t h.2).cons1 (Or.inl rfl)).cons1 (Or.inr ⟨v, rfl, h.1⟩)
  | .val v :: .val u :: t, h => by
    have h' : decide (v.category = 1) = true ∧ wfL (.val u :: t) = true := by rw [wfL, Bool.and_eq_true] at h; exact h
    exact (WR.of_wfL (.val u :: t) h'.2).cons1 (Or.inr ⟨v, rfl, of_decide_eq_true h'.1⟩)
theorem fg_length : (b : List Bool) → (L : List Slot) → (fg b L).length = L.length
  | true :: b, _ :: t => by simp [fg, fg_length b t]
  | false :: b, s :: t => by simp [fg, fg_length b t]
  | [], t => by simp [fg]
  | true :: _, [] => by simp [fg]
  | false :: _, [] => by simp [fg]
theorem fg_get : (b : List Bool) → (L : List Slot) → ∀ (i : Nat) (s : Slot), (fg b L)[i]? = some s → s = .unset ∨ L[i]? = some s
  | true :: b, x :: t, i, s, h => by
    cases i with
    | zero => left; simpa [fg] using h.symm
    | succ i => have := fg_get b t i s (by simpa [fg] using h); simpa using this
  | false :: b, x :: t, i, s, h => by
    cases i with
    | zero => right; simpa [fg] using h
    | succ i => have := fg_get b t i s (by simpa [fg] using h); simpa using this
  | [], t, i, s, h => by right; simpa [fg] using h
  | true :: _, [], i, s, h => by right; simpa [fg] using h
  | false :: _, [], i, s, h => by right; simpa [fg] using h
theorem SR.forget {ρ : Nat → Addr} {L : List Slot} {r : Array Slot} (h : SR ρ L r) (b : List Bool) (hw : wfL (fg b L) = true) : SR ρ (fg b L) r := by
  obtain ⟨h1, h2, h3, h4, h5⟩ := h
  refine ⟨by rw [fg_length]; exact h1, fun i v hi => ?_, fun i hi => ?_, WR.of_wfL _ hw, h5⟩
  · rcases fg_get _ _ _ _ hi with e | e
    · cases e
    · exact h2 i v e
  · rcases fg_get _ _ _ _ hi with e | e
    · cases e
    · exact h3 i e
/-- at a method's entry -/
theorem a2l (ρ : Nat → Addr) (as : List Value) (mx : Nat) : argsToLocals (as.map (rv ρ)).toArray mx = (argsToLocals as.toArray mx).map (rs ρ) := by
  have key : ∀ (as : List Value) (acc : Array Slot), (as.map (rv ρ)).foldl (fun acc v => if v.category = 2 then (acc.push (.val v)).push .second else acc.push (.val v)) (acc.map (rs ρ)) = (as.foldl (fun acc v => if v.category = 2 then (acc.push (.val v)).push .second else acc.push (.val v)) acc).map (rs ρ) := by
    intro as
    induction as with
    | nil => intro acc; rfl
    | cons v t ih =>
      intro acc
      simp only [List.map_cons, List.foldl_cons, rv_cat]
      by_cases hv : v.category = 2
      · rw [if_pos hv, if_pos hv, ← ih]; simp [Array.map_push, rs]
      · rw [if_neg hv, if_neg hv, ← ih]; simp [Array.map_push, rs]
  have k0 := key as #[]
  simp only [Array.map_empty] at k0
  simp only [argsToLocals, List.foldl_toArray', List.size_toArray]
  simp only [k0, Array.map_append, Array.size_map, Array.map_replicate, rs]
theorem SR.entry (ρ : Nat → Addr) (as : List Value) (mx : Nat) {L : List Slot} (hL : (argsToLocals as.toArray mx).toList = L) (hw : wfL L = true) : SR ρ L (argsToLocals (as.map (rv ρ)).toArray mx) := by
  subst hL
  rw [a2l]
  have hW := WR.of_wfL _ hw
  generalize argsToLocals as.toArray mx = A at hW
  have g : ∀ i : Nat, (A.map (rs ρ))[i]? = (A.toList[i]?).map (rs ρ) := by intro i; simp
  refine ⟨by simp, fun i v hi => by rw [g, hi]; rfl, fun i hi => by rw [g, hi]; rfl, hW, ?_, ?_⟩
  · intro i v hi hv
    have hi' : (A.toList[i]?).map (rs ρ) = some (.val v) := by rw [← g]; exact hi
    cases hs : A.toList[i]? with
    | none => rw [hs] at hi'; cases hi'
    | some s =>
      rw [hs] at hi'
      cases s with
      | unset => cases hi'
      | second => cases hi'
      | val u =>
        cases hi'
        have := hW.1 i u hs (by rwa [rv_cat] at hv)
        show (A.map (rs ρ))[i + 1]? = _
        rw [g]
        have t : A.toList[i + 1]? = some .second := this
        rw [t]; rfl
  · intro i hi
    have hi' : (A.toList[i]?).map (rs ρ) = some .second := by rw [← g]; exact hi
    cases hs : A.toList[i]? with
    | none => rw [hs] at hi'; cases hi'
    | some s =>
      rw [hs] at hi'
      cases s with
      | unset => cases hi'
      | val u => cases hi'
      | second =>
        obtain ⟨j, v, e1, e2, e3⟩ := hW.2 i hs
        refine ⟨j, rv ρ v, e1, ?_, by rw [rv_cat]; exact e3⟩
        show (A.map (rs ρ))[j]? = _
        rw [g]
        have t : A.toList[j]? = some (.val v) := e2
        rw [t]; rfl
end Jvm.Own

namespace Jvm.Own
open Jvm Jvm.ClassFile Sem Op Lib Jvm.Free Jvm.Stand Jvm.LawKit Jvm.RoadKit
/-! ## 2. A method's data; what it means that a walk from a point of it comes to an end -/
/-- name, bytes, number of variables, what it returns, room, cells that it makes -/
abbrev MD : Type := MethodName × ByteArray × Nat × Option FieldType × Room × Nat
abbrev nmOf (md : MD) : MethodName := md.1
abbrev byOf (md : MD) : ByteArray := md.2.1
abbrev mxOf (md : MD) : Nat := md.2.2.1
abbrev rtOf (md : MD) : Option FieldType := md.2.2.2.1
abbrev rmOf (md : MD) : Room := md.2.2.2.2.1
abbrev exOf (md : MD) : Nat := md.2.2.2.2.2
/-- the class whose methods are walked; where the walk's references point; the first new address; what the heap holds; what a walk leaves alone -/
abbrev Mode (μ E : Type) : Type := String × (E → Nat → Addr) × (E → Nat) × (E → μ → Heap → Prop) × (E → Heap → Heap → Prop)
abbrev Mode.own {μ E : Type} (M : Mode μ E) : String := M.1
abbrev Mode.rho {μ E : Type} (M : Mode μ E) : E → Nat → Addr := M.2.1
abbrev Mode.lo {μ E : Type} (M : Mode μ E) : E → Nat := M.2.2.1
abbrev Mode.rel {μ E : Type} (M : Mode μ E) : E → μ → Heap → Prop := M.2.2.2.1
abbrev Mode.frm {μ E : Type} (M : Mode μ E) : E → Heap → Heap → Prop := M.2.2.2.2
def Kn (Z : State) (own : String) (md : MD) (p : Program) (s : State) (m : MethodId) (meth : Method) (c : Code) : Prop :=
  p.tables.exec = Jvm.exec ∧ Z.Warmed39 s.vm ∧ s.vm.findClass own = some m.cls ∧ meth.name = (nmOf md).name ∧ meth.sig.returnType = rtOf md ∧ meth.locks = false ∧ c.code = byOf md ∧ c.maxLocals = mxOf md
def Done {μ E : Type} (l : Launch) (M : Mode μ E) (md : MD) (Q : Option Value → μ → Prop) (en : E) (p : Program) (e : Env) (s : State) (m : MethodId) (args : Array Value) (below : List Frame) (meth : Method) (c : Code) (T : State) (g : JFrame) : Prop :=
  ∃ (T' : State) (locs' : List Loc) (su' : Nat) (v : Option Value) (w' : μ), Stand p l e (rmOf md) s m args below meth c T' locs' (exOf md) su' ∧ exOf md ≤ (rmOf md).cells ∧ su' ≤ (rmOf md).slots ∧ T'.heap.size = s.heap.size + exOf md ∧ Fr (M.lo en) locs' ∧ M.rel en w' T'.heap ∧ M.frm en T.heap T'.heap ∧
    (meth.sig.returnType = none → v = none) ∧ (∀ ρ x, v = some x → rv ρ x = x) ∧ Q v w' ∧
    ∀ fs, (∀ (f : JFrame) (acts : List Action), f.method = m → f.locked = none → f.entered = [] → (doReturn e (T'.setTop f) acts v).1 = T'.setFrames fs) → Steps p.tables e below (T.setTop g) (T'.setFrames fs)
/-- from the pc, with these variables and operands, over w, the walk returns with what Q says -/
def Wk {μ E : Type} (l : Launch) (Z : State) (M : Mode μ E) (md : MD) (pc : Nat) (L : List Slot) (S : List Value) (w : μ) (cu su : Nat) (Q : Option Value → μ → Prop) : Prop :=
  ∀ (en : E) (p : Program) (e : Env) (s : State) (m : MethodId) (args : Array Value) (below : List Frame) (meth : Method) (c : Code) (T : State) (locs : List Loc) (r : Array Slot),
    Stand p l e (rmOf md) s m args below meth c T locs cu su → Kn Z M.own md p s m meth c → T.heap.size = s.heap.size + cu → Fr (M.lo en) locs → M.rel en w T.heap → SR (M.rho en) L r →
    Done l M md Q en p e s m args below meth c T (mkF m pc r (S.map (rv (M.rho en))))
section Steps
variable {μ E : Type} {l : Launch} {Z : State} {M : Mode μ E} {md : MD} {pc pc' : Nat} {L L' : List Slot} {S : List Value} {w : μ} {cu su : Nat} {Q : Option Value → μ → Prop}
theorem Done.pre {en : E} {p : Program} {e : Env} {s : State} {m : MethodId} {args : Array Value} {below : List Frame} {meth : Method} {c : Code} {T T1 : State} {g g1 : JFrame} (h : Done l M md Q en p e s m args below meth c T1 g1) (hT : ∀ x, M.frm en T1.heap x → M.frm en T.heap x)
    (st : ∀ t, Steps p.tables e below (T1.setTop g1) t → Steps p.tables e below (T.setTop g) t) : Done l M md Q en p e s m args below meth c T g := by
  obtain ⟨T', locs', su', v, w', a1, a2, a3, a4, a5, a6, a7, a8, a9, a10, a11⟩ := h
  exact ⟨T', locs', su', v, w', a1, a2, a3, a4, a5, a6, hT _ a7, a8, a9, a10, fun fs hf => st _ (a11 fs hf)⟩
theorem Wk.mono {Q' : Option Value → μ → Prop} (h : Wk l Z M md pc L S w cu su Q) (hq : ∀ v w', Q v w' → Q' v w') : Wk l Z M md pc L S w cu su Q' := by
  intro en p e s m args below meth c T locs r X K hz hF hR hL
  obtain ⟨T', locs', su', v, w', a1, a2, a3, a4, a5, a6, a7, a8, a9, a10, a11⟩ := h en p e s m args below meth c T locs r X K hz hF hR hL
  exact ⟨T', locs', su', v, w', a1, a2, a3, a4, a5, a6, a7, a8, a9, hq _ _ a10, a11⟩
abbrev InsA (md : MD) (pc : Nat) (i : Instr) (n pc' : Nat) : Prop := decode (byOf md) pc = .ok (i, n) ∧ pc + n = pc'
abbrev InsB (md : MD) (pc : Nat) (i : Instr) (n pc' : Nat) (o : Int) (pt : Nat) : Prop := decode (byOf md) pc = .ok (i, n) ∧ pc + n = pc' ∧ 0 ≤ (pc : Int) + o ∧ ((pc : Int) + o).toNat = pt
theorem Kn.by {own : String} {p : Program} {s : State} {m : MethodId} {meth : Method} {c : Code} (K : Kn Z own md p s m meth c) : c.code = byOf md := K.2.2.2.2.2.2.1
theorem Wk.forget (b : List Bool) (hf : fg b L = L') (hw : wfL L' = true) (h : Wk l Z M md pc L' S w cu su Q) : Wk l Z M md pc L S w cu su Q :=
  fun en p e s m args below meth c T locs r X K hz hF hR hL => h en p e s m args below meth c T locs r X K hz hF hR (by subst hf; exact hL.forget b hw)
theorem Wk.iloadN {k : Fin 4} {v : Int32} (hd : InsA md pc (.iload_n k) 1 pc') (hl : L[k.val]? = some (.val (.int v))) (h : Wk l Z M md pc' L (.int v :: S) w cu su Q) : Wk l Z M md pc L (S) w cu su Q :=
  fun en p e s m args below meth c T locs r X K hz hF hR hL => by
  obtain ⟨hd, rfl⟩ := hd
  exact (h en p e s m args below meth c T locs r X K hz hF hR hL).pre (fun _ q => q) fun t k => XS.iloadN X.here K.1 rfl (hb K.by hd) (hL.get hl) k
theorem Wk.iload {k : Nat} {v : Int32} (hd : InsA md pc (.iload k) 2 pc') (hl : L[k]? = some (.val (.int v))) (h : Wk l Z M md pc' L (.int v :: S) w cu su Q) : Wk l Z M md pc L (S) w cu su Q :=
  fun en p e s m args below meth c T locs r X K hz hF hR hL => by
  obtain ⟨hd, rfl⟩ := hd
  exact (h en p e s m args below meth c T locs r X K hz hF hR hL).pre (fun _ q => q) fun t k => XS.iload X.here K.1 rfl (hb K.by hd) (hL.get hl) k
theorem Wk.lloadN {k : Fin 4} {v : Int64} (hd : InsA md pc (.lload_n k) 1 pc') (hl : L[k.val]? = some (.val (.long v))) (h : Wk l Z M md pc' L (.long v :: S) w cu su Q) : Wk l Z M md pc L (S) w cu su Q :=
  fun en p e s m args below meth c T locs r X K hz hF hR hL => by
  obtain ⟨hd, rfl⟩ := hd
  exact (h en p e s m args below meth c T locs r X K hz hF hR hL).pre (fun _ q => q) fun t k => XT.lloadN X.here K.1 rfl (hb K.by hd) (hL.get hl) k
theorem Wk.lload {k : Nat} {v : Int64} (hd : InsA md pc (.lload k) 2 pc') (hl : L[k]? = some (.val (.long v))) (h : Wk l Z M md pc' L (.long v :: S) w cu su Q) : Wk l Z M md pc L (S) w cu su Q :=
  fun en p e s m args below meth c T locs r X K hz hF hR hL => by
  obtain ⟨hd, rfl⟩ := hd
  exact (h en p e s m args below meth c T locs r X K hz hF hR hL).pre (fun _ q => q) fun t k => XT.lload X.here K.1 rfl (hb K.by hd) (hL.get hl) k
theorem Wk.aloadN {k : Fin 4} {v : Nat} (hd : InsA md pc (.aload_n k) 1 pc') (hl : L[k.val]? = some (.val (.ref v))) (h : Wk l Z M md pc' L (.ref v :: S) w cu su Q) : Wk l Z M md pc L (S) w cu su Q :=
  fun en p e s m args below meth c T locs r X K hz hF hR hL => by
  obtain ⟨hd, rfl⟩ := hd
  exact (h en p e s m args below meth c T locs r X K hz hF hR hL).pre (fun _ q => q) fun t k => XS.aloadN X.here K.1 rfl (hb K.by hd) (hL.get hl) rfl k
theorem Wk.aload {k : Nat} {v : Nat} (hd : InsA md pc (.aload k) 2 pc') (hl : L[k]? = some (.val (.ref v))) (h : Wk l Z M md pc' L (.ref v :: S) w cu su Q) : Wk l Z M md pc L (S) w cu su Q :=
  fun en p e s m args below meth c T locs r X K hz hF hR hL => by
  obtain ⟨hd, rfl⟩ := hd
  exact (h en p e s m args below meth c T locs r X K hz hF hR hL).pre (fun _ q => q) fun t k => XS.aload X.here K.1 rfl (hb K.by hd) (hL.get hl) rfl k
theorem Wk.iconst {i : Int} {z : Int32} (hd : InsA md pc (.iconst i) 1 pc') (hz' : Int32.ofInt i = z) (h : Wk l Z M md pc' L (.int z :: S) w cu su Q) : Wk l Z M md pc L (S) w cu su Q :=
  fun en p e s m args below meth c T locs r X K hz hF hR hL => by
  obtain ⟨hd, rfl⟩ := hd
  exact (h en p e s m args below meth c T locs r X K hz hF hR hL).pre (fun _ q => q) fun t k => XS.iconst X.here K.1 rfl (hb K.by hd) (by subst hz'; exact k)
theorem Wk.bipush {i : Int} {z : Int32} (hd : InsA md pc (.bipush i) 2 pc') (hz' : (Int8.ofInt i).toInt32 = z) (h : Wk l Z M md pc' L (.int z :: S) w cu su Q) : Wk l Z M md pc L (S) w cu su Q :=
  fun en p e s m args below meth c T locs r X K hz hF hR hL => by
  obtain ⟨hd, rfl⟩ := hd
  exact (h en p e s m args below meth c T locs r X K hz hF hR hL).pre (fun _ q => q) fun t k => XS.bipush X.here K.1 rfl (hb K.by hd) (by subst hz'; exact k)
theorem Wk.sipush {i : Int} {z : Int32} (hd : InsA md pc (.sipush i) 3 pc') (hz' : (Int16.ofInt i).toInt32 = z) (h : Wk l Z M md pc' L (.int z :: S) w cu su Q) : Wk l Z M md pc L (S) w cu su Q :=
  fun en p e s m args below meth c T locs r X K hz hF hR hL => by
  obtain ⟨hd, rfl⟩ := hd
  exact (h en p e s m args below meth c T locs r X K hz hF hR hL).pre (fun _ q => q) fun t k => XS.sipush X.here K.1 rfl (hb K.by hd) (by subst hz'; exact k)
theorem Wk.lconst {i : Fin 2} {z : Int64} (hd : InsA md pc (.lconst i) 1 pc') (hz' : Int64.ofNat i = z) (h : Wk l Z M md pc' L (.long z :: S) w cu su Q) : Wk l Z M md pc L (S) w cu su Q :=
  fun en p e s m args below meth c T locs r X K hz hF hR hL => by
  obtain ⟨hd, rfl⟩ := hd
  exact (h en p e s m args below meth c T locs r X K hz hF hR hL).pre (fun _ q => q) fun t k => XT.lconst X.here K.1 rfl (hb K.by hd) (by subst hz'; exact k)
theorem Wk.iadd {x y : Int32} (hd : InsA md pc (.iadd) 1 pc') (h : Wk l Z M md pc' L (.int (x + y) :: S) w cu su Q) : Wk l Z M md pc L (.int y :: .int x :: S) w cu su Q :=
  fun en p e s m args below meth c T locs r X K hz hF hR hL => by
  obtain ⟨hd, rfl⟩ := hd
  exact (h en p e s m args below meth c T locs r X K hz hF hR hL).pre (fun _ q => q) fun t k => XS.iadd X.here K.1 rfl (hb K.by hd) rfl k
theorem Wk.isub {x y : Int32} (hd : InsA md pc (.isub) 1 pc') (h : Wk l Z M md pc' L (.int (x - y) :: S) w cu su Q) : Wk l Z M md pc L (.int y :: .int x :: S) w cu su Q :=
  fun en p e s m args below meth c T locs r X K hz hF hR hL => by
  obtain ⟨hd, rfl⟩ := hd
  exact (h en p e s m args below meth c T locs r X K hz hF hR hL).pre (fun _ q => q) fun t k => XS.isub X.here K.1 rfl (hb K.by hd) rfl k
theorem Wk.imul {x y : Int32} (hd : InsA md pc (.imul) 1 pc') (h : Wk l Z M md pc' L (.int (x * y) :: S) w cu su Q) : Wk l Z M md pc L (.int y :: .int x :: S) w cu su Q :=
  fun en p e s m args below meth c T locs r X K hz hF hR hL => by
  obtain ⟨hd, rfl⟩ := hd
  exact (h en p e s m args below meth c T locs r X K hz hF hR hL).pre (fun _ q => q) fun t k => XS.imul X.here K.1 rfl (hb K.by hd) rfl k
theorem Wk.iand {x y : Int32} (hd : InsA md pc (.iand) 1 pc') (h : Wk l Z M md pc' L (.int (x &&& y) :: S) w cu su Q) : Wk l Z M md pc L (.int y :: .int x :: S) w cu su Q :=
  fun en p e s m args below meth c T locs r X K hz hF hR hL => by
  obtain ⟨hd, rfl⟩ := hd
  exact (h en p e s m args below meth c T locs r X K hz hF hR hL).pre (fun _ q => q) fun t k => XS.iand X.here K.1 rfl (hb K.by hd) rfl k
theorem Wk.ior {x y : Int32} (hd : InsA md pc (.ior) 1 pc') (h : Wk l Z M md pc' L (.int (x ||| y) :: S) w cu su Q) : Wk l Z M md pc L (.int y :: .int x :: S) w cu su Q :=
  fun en p e s m args below meth c T locs r X K hz hF hR hL => by
  obtain ⟨hd, rfl⟩ := hd
  exact (h en p e s m args below meth c T locs r X K hz hF hR hL).pre (fun _ q => q) fun t k => XT.ior X.here K.1 rfl (hb K.by hd) rfl k
theorem Wk.ixor {x y : Int32} (hd : InsA md pc (.ixor) 1 pc') (h : Wk l Z M md pc' L (.int (x ^^^ y) :: S) w cu su Q) : Wk l Z M md pc L (.int y :: .int x :: S) w cu su Q :=
  fun en p e s m args below meth c T locs r X K hz hF hR hL => by
  obtain ⟨hd, rfl⟩ := hd
  exact (h en p e s m args below meth c T locs r X K hz hF hR hL).pre (fun _ q => q) fun t k => XT.ixor X.here K.1 rfl (hb K.by hd) rfl k
theorem Wk.ishl {x y : Int32} (hd : InsA md pc (.ishl) 1 pc') (h : Wk l Z M md pc' L (.int (x <<< (y &&& 31)) :: S) w cu su Q) : Wk l Z M md pc L (.int y :: .int x :: S) w cu su Q :=
  fun en p e s m args below meth c T locs r X K hz hF hR hL => by
  obtain ⟨hd, rfl⟩ := hd
  exact (h en p e s m args below meth c T locs r X K hz hF hR hL).pre (fun _ q => q) fun t k => XT.ishl X.here K.1 rfl (hb K.by hd) rfl k
theorem Wk.ishr {x y : Int32} (hd : InsA md pc (.ishr) 1 pc') (h : Wk l Z M md pc' L (.int (x >>> (y &&& 31)) :: S) w cu su Q) : Wk l Z M md pc L (.int y :: .int x :: S) w cu su Q :=
  fun en p e s m args below meth c T locs r X K hz hF hR hL => by
  obtain ⟨hd, rfl⟩ := hd
  exact (h en p e s m args below meth c T locs r X K hz hF hR hL).pre (fun _ q => q) fun t k => XT.ishr X.here K.1 rfl (hb K.by hd) rfl k
theorem Wk.iushr {x y : Int32} (hd : InsA md pc (.iushr) 1 pc') (h : Wk l Z M md pc' L (.int (XT.ushr x y) :: S) w cu su Q) : Wk l Z M md pc L (.int y :: .int x :: S) w cu su Q :=
  fun en p e s m args below meth c T locs r X K hz hF hR hL => by
  obtain ⟨hd, rfl⟩ := hd
  exact (h en p e s m args below meth c T locs r X K hz hF hR hL).pre (fun _ q => q) fun t k => XT.iushr X.here K.1 rfl (hb K.by hd) rfl k
theorem Wk.ineg {x : Int32} (hd : InsA md pc (.ineg) 1 pc') (h : Wk l Z M md pc' L (.int (-x) :: S) w cu su Q) : Wk l Z M md pc L (.int x :: S) w cu su Q :=
  fun en p e s m args below meth c T locs r X K hz hF hR hL => by
  obtain ⟨hd, rfl⟩ := hd
  exact (h en p e s m args below meth c T locs r X K hz hF hR hL).pre (fun _ q => q) fun t k => XS.ineg X.here K.1 rfl (hb K.by hd) rfl k
theorem Wk.idiv {x y : Int32} (hd : InsA md pc (.idiv) 1 pc') (hy : y ≠ 0) (h : Wk l Z M md pc' L (.int (x / y) :: S) w cu su Q) : Wk l Z M md pc L (.int y :: .int x :: S) w cu su Q :=
  fun en p e s m args below meth c T locs r X K hz hF hR hL => by
  obtain ⟨hd, rfl⟩ := hd
  exact (h en p e s m args below meth c T locs r X K hz hF hR hL).pre (fun _ q => q) fun t k => XS.idiv X.here K.1 rfl (hb K.by hd) rfl hy k
theorem Wk.irem {x y : Int32} (hd : InsA md pc (.irem) 1 pc') (hy : y ≠ 0) (h : Wk l Z M md pc' L (.int (x % y) :: S) w cu su Q) : Wk l Z M md pc L (.int y :: .int x :: S) w cu su Q :=
  fun en p e s m args below meth c T locs r X K hz hF hR hL => by
  obtain ⟨hd, rfl⟩ := hd
  exact (h en p e s m args below meth c T locs r X K hz hF hR hL).pre (fun _ q => q) fun t k => Jvm.RoadKit.iremM X K.1 rfl (hb K.by hd) rfl hy k
theorem Wk.ladd {x y : Int64} (hd : InsA md pc (.ladd) 1 pc') (h : Wk l Z M md pc' L (.long (x + y) :: S) w cu su Q) : Wk l Z M md pc L (.long y :: .long x :: S) w cu su Q :=
  fun en p e s m args below meth c T locs r X K hz hF hR hL => by
  obtain ⟨hd, rfl⟩ := hd
  exact (h en p e s m args below meth c T locs r X K hz hF hR hL).pre (fun _ q => q) fun t k => XT.ladd X.here K.1 rfl (hb K.by hd) rfl k
theorem Wk.lsub {x y : Int64} (hd : InsA md pc (.lsub) 1 pc') (h : Wk l Z M md pc' L (.long (x - y) :: S) w cu su Q) : Wk l Z M md pc L (.long y :: .long x :: S) w cu su Q :=
  fun en p e s m args below meth c T locs r X K hz hF hR hL => by
  obtain ⟨hd, rfl⟩ := hd
  exact (h en p e s m args below meth c T locs r X K hz hF hR hL).pre (fun _ q => q) fun t k => XT.lsub X.here K.1 rfl (hb K.by hd) rfl k
theorem Wk.lmul {x y : Int64} (hd : InsA md pc (.lmul) 1 pc') (h : Wk l Z M md pc' L (.long (x * y) :: S) w cu su Q) : Wk l Z M md pc L (.long y :: .long x :: S) w cu su Q :=
  fun en p e s m args below meth c T locs r X K hz hF hR hL => by
  obtain ⟨hd, rfl⟩ := hd
  exact (h en p e s m args below meth c T locs r X K hz hF hR hL).pre (fun _ q => q) fun t k => XT.lmul X.here K.1 rfl (hb K.by hd) rfl k
theorem Wk.land {x y : Int64} (hd : InsA md pc (.land) 1 pc') (h : Wk l Z M md pc' L (.long (x &&& y) :: S) w cu su Q) : Wk l Z M md pc L (.long y :: .long x :: S) w cu su Q :=
  fun en p e s m args below meth c T locs r X K hz hF hR hL => by
  obtain ⟨hd, rfl⟩ := hd
  exact (h en p e s m args below meth c T locs r X K hz hF hR hL).pre (fun _ q => q) fun t k => XT.land X.here K.1 rfl (hb K.by hd) rfl k
theorem Wk.lor {x y : Int64} (hd : InsA md pc (.lor) 1 pc') (h : Wk l Z M md pc' L (.long (x ||| y) :: S) w cu su Q) : Wk l Z M md pc L (.long y :: .long x :: S) w cu su Q :=
  fun en p e s m args below meth c T locs r X K hz hF hR hL => by
  obtain ⟨hd, rfl⟩ := hd
  exact (h en p e s m args below meth c T locs r X K hz hF hR hL).pre (fun _ q => q) fun t k => XT.lor X.here K.1 rfl (hb K.by hd) rfl k
theorem Wk.lxor {x y : Int64} (hd : InsA md pc (.lxor) 1 pc') (h : Wk l Z M md pc' L (.long (x ^^^ y) :: S) w cu su Q) : Wk l Z M md pc L (.long y :: .long x :: S) w cu su Q :=
  fun en p e s m args below meth c T locs r X K hz hF hR hL => by
  obtain ⟨hd, rfl⟩ := hd
  exact (h en p e s m args below meth c T locs r X K hz hF hR hL).pre (fun _ q => q) fun t k => XT.lxor X.here K.1 rfl (hb K.by hd) rfl k
theorem Wk.ldiv {x y : Int64} (hd : InsA md pc (.ldiv) 1 pc') (hy : y ≠ 0) (h : Wk l Z M md pc' L (.long (x / y) :: S) w cu su Q) : Wk l Z M md pc L (.long y :: .long x :: S) w cu su Q :=
  fun en p e s m args below meth c T locs r X K hz hF hR hL => by
  obtain ⟨hd, rfl⟩ := hd
  exact (h en p e s m args below meth c T locs r X K hz hF hR hL).pre (fun _ q => q) fun t k => XT.ldiv X.here K.1 rfl (hb K.by hd) rfl hy k
theorem Wk.lrem {x y : Int64} (hd : InsA md pc (.lrem) 1 pc') (hy : y ≠ 0) (h : Wk l Z M md pc' L (.long (x - (x / y) * y) :: S) w cu su Q) : Wk l Z M md pc L (.long y :: .long x :: S) w cu su Q :=
  fun en p e s m args below meth c T locs r X K hz hF hR hL => by
  obtain ⟨hd, rfl⟩ := hd
  exact (h en p e s m args below meth c T locs r X K hz hF hR hL).pre (fun _ q => q) fun t k => XT.lrem X.here K.1 rfl (hb K.by hd) rfl hy k
theorem Wk.lshl {x : Int64} {y : Int32} (hd : InsA md pc (.lshl) 1 pc') (h : Wk l Z M md pc' L (.long (x <<< (y.toInt64 &&& 63)) :: S) w cu su Q) : Wk l Z M md pc L (.int y :: .long x :: S) w cu su Q :=
  fun en p e s m args below meth c T locs r X K hz hF hR hL => by
  obtain ⟨hd, rfl⟩ := hd
  exact (h en p e s m args below meth c T locs r X K hz hF hR hL).pre (fun _ q => q) fun t k => XT.lshl X.here K.1 rfl (hb K.by hd) rfl k
theorem Wk.lshr {x : Int64} {y : Int32} (hd : InsA md pc (.lshr) 1 pc') (h : Wk l Z M md pc' L (.long (x >>> (y.toInt64 &&& 63)) :: S) w cu su Q) : Wk l Z M md pc L (.int y :: .long x :: S) w cu su Q :=
  fun en p e s m args below meth c T locs r X K hz hF hR hL => by
  obtain ⟨hd, rfl⟩ := hd
  exact (h en p e s m args below meth c T locs r X K hz hF hR hL).pre (fun _ q => q) fun t k => XT.lshr X.here K.1 rfl (hb K.by hd) rfl k
theorem Wk.lushr {x : Int64} {y : Int32} (hd : InsA md pc (.lushr) 1 pc') (h : Wk l Z M md pc' L (.long (XT.ushrL x y) :: S) w cu su Q) : Wk l Z M md pc L (.int y :: .long x :: S) w cu su Q :=
  fun en p e s m args below meth c T locs r X K hz hF hR hL => by
  obtain ⟨hd, rfl⟩ := hd
  exact (h en p e s m args below meth c T locs r X K hz hF hR hL).pre (fun _ q => q) fun t k => XT.lushr X.here K.1 rfl (hb K.by hd) rfl k
theorem Wk.i2l {x : Int32} (hd : InsA md pc (.i2l) 1 pc') (h : Wk l Z M md pc' L (.long x.toInt64 :: S) w cu su Q) : Wk l Z M md pc L (.int x :: S) w cu su Q :=
  fun en p e s m args below meth c T locs r X K hz hF hR hL => by
  obtain ⟨hd, rfl⟩ := hd
  exact (h en p e s m args below meth c T locs r X K hz hF hR hL).pre (fun _ q => q) fun t k => XT.i2l X.here K.1 rfl (hb K.by hd) rfl k
theorem Wk.l2i {x : Int64} (hd : InsA md pc (.l2i) 1 pc') (h : Wk l Z M md pc' L (.int x.toInt32 :: S) w cu su Q) : Wk l Z M md pc L (.long x :: S) w cu su Q :=
  fun en p e s m args below meth c T locs r X K hz hF hR hL => by
  obtain ⟨hd, rfl⟩ := hd
  exact (h en p e s m args below meth c T locs r X K hz hF hR hL).pre (fun _ q => q) fun t k => XT.l2i X.here K.1 rfl (hb K.by hd) rfl k
theorem Wk.lcmp {x y : Int64} (hd : InsA md pc (.lcmp) 1 pc') (h : Wk l Z M md pc' L (.int (XT.cmpL x y) :: S) w cu su Q) : Wk l Z M md pc L (.long y :: .long x :: S) w cu su Q :=
  fun en p e s m args below meth c T locs r X K hz hF hR hL => by
  obtain ⟨hd, rfl⟩ := hd
  exact (h en p e s m args below meth c T locs r X K hz hF hR hL).pre (fun _ q => q) fun t k => XT.lcmp X.here K.1 rfl (hb K.by hd) rfl k
theorem Wk.dup {v : Value} (hd : InsA md pc (.dup) 1 pc') (hv : v.category = 1) (h : Wk l Z M md pc' L (v :: v :: S) w cu su Q) : Wk l Z M md pc L (v :: S) w cu su Q :=
  fun en p e s m args below meth c T locs r X K hz hF hR hL => by
  obtain ⟨hd, rfl⟩ := hd
  exact (h en p e s m args below meth c T locs r X K hz hF hR hL).pre (fun _ q => q) fun t k => XS.dup X.here K.1 rfl (hb K.by hd) rfl (by rw [rv_cat]; exact hv) k
theorem Wk.pop {v : Value} (hd : InsA md pc (.pop) 1 pc') (hv : v.category = 1) (h : Wk l Z M md pc' L (S) w cu su Q) : Wk l Z M md pc L (v :: S) w cu su Q :=
  fun en p e s m args below meth c T locs r X K hz hF hR hL => by
  obtain ⟨hd, rfl⟩ := hd
  exact (h en p e s m args below meth c T locs r X K hz hF hR hL).pre (fun _ q => q) fun t k => XT.pop X.here K.1 rfl (hb K.by hd) rfl (by rw [rv_cat]; exact hv) k
theorem Wk.dup2 {v u : Value} (hd : InsA md pc (.dup2) 1 pc') (hv : v.category = 1) (hu : u.category = 1) (h : Wk l Z M md pc' L (v :: u :: v :: u :: S) w cu su Q) : Wk l Z M md pc L (v :: u :: S) w cu su Q :=
  fun en p e s m args below meth c T locs r X K hz hF hR hL => by
  obtain ⟨hd, rfl⟩ := hd
  exact (h en p e s m args below meth c T locs r X K hz hF hR hL).pre (fun _ q => q) fun t k => XT.dup2 X.here K.1 rfl (hb K.by hd) rfl (by rw [rv_cat]; exact hv) (by rw [rv_cat]; exact hu) k
theorem Wk.dupX1 {v u : Value} (hd : InsA md pc (.dup_x1) 1 pc') (hv : v.category = 1) (hu : u.category = 1) (h : Wk l Z M md pc' L (v :: u :: v :: S) w cu su Q) : Wk l Z M md pc L (v :: u :: S) w cu su Q :=
  fun en p e s m args below meth c T locs r X K hz hF hR hL => by
  obtain ⟨hd, rfl⟩ := hd
  exact (h en p e s m args below meth c T locs r X K hz hF hR hL).pre (fun _ q => q) fun t k => XT.dupX1 X.here K.1 rfl (hb K.by hd) rfl (by rw [rv_cat]; exact hv) (by rw [rv_cat]; exact hu) k
theorem Wk.istoreN {k : Fin 4} {x : Int32} (hd : InsA md pc (.istore_n k) 1 pc') (ho : C1 L[k.val]?) (hl : L.set k.val (.val (.int x)) = L') (h : Wk l Z M md pc' L' S w cu su Q) : Wk l Z M md pc L (.int x :: S) w cu su Q :=
  fun en p e s m args below meth c T locs r X K hz hF hR hL => by
  obtain ⟨hd, rfl⟩ := hd
  obtain ⟨r', e1, hL2⟩ := hL.st1 (v := .int x) ho rfl
  subst hl
  exact (h en p e s m args below meth c T locs r' X K hz hF hR hL2).pre (fun _ q => q) fun t k => XS.istoreN X.here K.1 rfl (hb K.by hd) rfl e1 k
theorem Wk.istore {k : Nat} {x : Int32} (hd : InsA md pc (.istore k) 2 pc') (ho : C1 L[k]?) (hl : L.set k (.val (.int x)) = L') (h : Wk l Z M md pc' L' S w cu su Q) : Wk l Z M md pc L (.int x :: S) w cu su Q :=
  fun en p e s m args below meth c T locs r X K hz hF hR hL => by
  obtain ⟨hd, rfl⟩ := hd
  obtain ⟨r', e1, hL2⟩ := hL.st1 (v := .int x) ho rfl
  subst hl
  exact (h en p e s m args below meth c T locs r' X K hz hF hR hL2).pre (fun _ q => q) fun t k => XS.istore X.here K.1 rfl (hb K.by hd) rfl e1 k
theorem Wk.astoreN {k : Fin 4} {x : Nat} (hd : InsA md pc (.astore_n k) 1 pc') (ho : C1 L[k.val]?) (hl : L.set k.val (.val (.ref x)) = L') (h : Wk l Z M md pc' L' S w cu su Q) : Wk l Z M md pc L (.ref x :: S) w cu su Q :=
  fun en p e s m args below meth c T locs r X K hz hF hR hL => by
  obtain ⟨hd, rfl⟩ := hd
  obtain ⟨r', e1, hL2⟩ := hL.st1 (v := .ref x) ho rfl
  subst hl
  exact (h en p e s m args below meth c T locs r' X K hz hF hR hL2).pre (fun _ q => q) fun t k => XS.astoreN X.here K.1 rfl (hb K.by hd) rfl rfl e1 k
theorem Wk.astore {k : Nat} {x : Nat} (hd : InsA md pc (.astore k) 2 pc') (ho : C1 L[k]?) (hl : L.set k (.val (.ref x)) = L') (h : Wk l Z M md pc' L' S w cu su Q) : Wk l Z M md pc L (.ref x :: S) w cu su Q :=
  fun en p e s m args below meth c T locs r X K hz hF hR hL => by
  obtain ⟨hd, rfl⟩ := hd
  obtain ⟨r', e1, hL2⟩ := hL.st1 (v := .ref x) ho rfl
  subst hl
  exact (h en p e s m args below meth c T locs r' X K hz hF hR hL2).pre (fun _ q => q) fun t k => XS.astore X.here K.1 rfl (hb K.by hd) rfl rfl e1 k
theorem Wk.lstoreN {k : Fin 4} {x : Int64} (hd : InsA md pc (.lstore_n k) 1 pc') (ho : C1 L[k.val]?) (ho2 : C1 L[k.val + 1]?) (hl : (L.set k.val (.val (.long x))).set (k.val + 1) .second = L') (h : Wk l Z M md pc' L' S w cu su Q) : Wk l Z M md pc L (.long x :: S) w cu su Q :=
  fun en p e s m args below meth c T locs r X K hz hF hR hL => by
  obtain ⟨hd, rfl⟩ := hd
  obtain ⟨r', e1, hL2⟩ := hL.st2 (v := .long x) ho ho2 rfl
  subst hl
  exact (h en p e s m args below meth c T locs r' X K hz hF hR hL2).pre (fun _ q => q) fun t k => XT.lstoreN X.here K.1 rfl (hb K.by hd) rfl e1 k
theorem Wk.lstore {k : Nat} {x : Int64} (hd : InsA md pc (.lstore k) 2 pc') (ho : C1 L[k]?) (ho2 : C1 L[k + 1]?) (hl : (L.set k (.val (.long x))).set (k + 1) .second = L') (h : Wk l Z M md pc' L' S w cu su Q) : Wk l Z M md pc L (.long x :: S) w cu su Q :=
  fun en p e s m args below meth c T locs r X K hz hF hR hL => by
  obtain ⟨hd, rfl⟩ := hd
  obtain ⟨r', e1, hL2⟩ := hL.st2 (v := .long x) ho ho2 rfl
  subst hl
  exact (h en p e s m args below meth c T locs r' X K hz hF hR hL2).pre (fun _ q => q) fun t k => XT.lstore X.here K.1 rfl (hb K.by hd) rfl e1 k
theorem Wk.iinc {k : Nat} {cst : Int} {x z : Int32} (hd : InsA md pc (.iinc k cst) 3 pc') (hv : L[k]? = some (.val (.int x))) (hz' : x + Int32.ofInt cst = z) (hl : L.set k (.val (.int z)) = L') (h : Wk l Z M md pc' L' S w cu su Q) : Wk l Z M md pc L S w cu su Q :=
  fun en p e s m args below meth c T locs r X K hz hF hR hL => by
  obtain ⟨hd, rfl⟩ := hd
  obtain ⟨r', e1, hL2⟩ := hL.st1 (i := k) (v := .int z) (Or.inr ⟨_, hv, rfl⟩) rfl
  subst hl hz'
  exact (h en p e s m args below meth c T locs r' X K hz hF hR hL2).pre (fun _ q => q) fun t k => XS.iinc X.here K.1 rfl (hb K.by hd) (hL.get hv) e1 k
theorem Wk.goto {o : Int} {pt : Nat} (hd : InsB md pc (.goto o) 3 pc' o pt) (h : Wk l Z M md pt L S w cu su Q) : Wk l Z M md pc L S w cu su Q :=
  fun en p e s m args below meth c T locs r X K hz hF hR hL => by
  obtain ⟨hd, rfl, h3, h4⟩ := hd
  exact (h en p e s m args below meth c T locs r X K hz hF hR hL).pre (fun _ q => q) fun t k => XS.goto X.here K.1 rfl rfl (hb K.by hd) h3 h4 k
theorem Wk.icmp_lt {x y : Int32} {o : Int} {pt : Nat} (hd : InsB md pc (.if_icmp .lt o) 3 pc' o pt) (h1 : x < y → Wk l Z M md pt L S w cu su Q) (h2 : ¬ x < y → Wk l Z M md pc' L S w cu su Q) : Wk l Z M md pc L (.int y :: .int x :: S) w cu su Q :=
  fun en p e s m args below meth c T locs r X K hz hF hR hL => by
  obtain ⟨hd, rfl, h3, h4⟩ := hd
  by_cases q : x < y
  · exact (h1 q en p e s m args below meth c T locs r X K hz hF hR hL).pre (fun _ q => q) fun t k => XS.icmpYes X.here K.1 rfl rfl (hb K.by hd) rfl (tlt q).1 h3 h4 k
  · exact (h2 q en p e s m args below meth c T locs r X K hz hF hR hL).pre (fun _ q => q) fun t k => XS.icmpNo X.here K.1 rfl (hb K.by hd) rfl (flt q).1 k
theorem Wk.if_lt {x : Int32} {o : Int} {pt : Nat} (hd : InsB md pc (.ifCond .lt o) 3 pc' o pt) (h1 : x < 0 → Wk l Z M md pt L S w cu su Q) (h2 : ¬ x < 0 → Wk l Z M md pc' L S w cu su Q) : Wk l Z M md pc L (.int x :: S) w cu su Q :=
  fun en p e s m args below meth c T locs r X K hz hF hR hL => by
  obtain ⟨hd, rfl, h3, h4⟩ := hd
  by_cases q : x < 0
  · exact (h1 q en p e s m args below meth c T locs r X K hz hF hR hL).pre (fun _ q => q) fun t k => XS.ifYes X.here K.1 rfl rfl (hb K.by hd) rfl ((if0 _ _).trans (tlt q).1) h3 h4 k
  · exact (h2 q en p e s m args below meth c T locs r X K hz hF hR hL).pre (fun _ q => q) fun t k => XS.ifNo X.here K.1 rfl (hb K.by hd) rfl ((if0 _ _).trans (flt q).1) k
theorem Wk.icmp_ge {x y : Int32} {o : Int} {pt : Nat} (hd : InsB md pc (.if_icmp .ge o) 3 pc' o pt) (h1 : ¬ x < y → Wk l Z M md pt L S w cu su Q) (h2 : x < y → Wk l Z M md pc' L S w cu su Q) : Wk l Z M md pc L (.int y :: .int x :: S) w cu su Q :=
  fun en p e s m args below meth c T locs r X K hz hF hR hL => by
  obtain ⟨hd, rfl, h3, h4⟩ := hd
  by_cases q : x < y
  · exact (h2 q en p e s m args below meth c T locs r X K hz hF hR hL).pre (fun _ q => q) fun t k => XS.icmpNo X.here K.1 rfl (hb K.by hd) rfl (tlt q).2.1 k
  · exact (h1 q en p e s m args below meth c T locs r X K hz hF hR hL).pre (fun _ q => q) fun t k => XS.icmpYes X.here K.1 rfl rfl (hb K.by hd) rfl (flt q).2.1 h3 h4 k
theorem Wk.if_ge {x : Int32} {o : Int} {pt : Nat} (hd : InsB md pc (.ifCond .ge o) 3 pc' o pt) (h1 : ¬ x < 0 → Wk l Z M md pt L S w cu su Q) (h2 : x < 0 → Wk l Z M md pc' L S w cu su Q) : Wk l Z M md pc L (.int x :: S) w cu su Q :=
  fun en p e s m args below meth c T locs r X K hz hF hR hL => by
  obtain ⟨hd, rfl, h3, h4⟩ := hd
  by_cases q : x < 0
  · exact (h2 q en p e s m args below meth c T locs r X K hz hF hR hL).pre (fun _ q => q) fun t k => XS.ifNo X.here K.1 rfl (hb K.by hd) rfl ((if0 _ _).trans (tlt q).2.1) k
  · exact (h1 q en p e s m args below meth c T locs r X K hz hF hR hL).pre (fun _ q => q) fun t k => XS.ifYes X.here K.1 rfl rfl (hb K.by hd) rfl ((if0 _ _).trans (flt q).2.1) h3 h4 k
theorem Wk.icmp_gt {x y : Int32} {o : Int} {pt : Nat} (hd : InsB md pc (.if_icmp .gt o) 3 pc' o pt) (h1 : y < x → Wk l Z M md pt L S w cu su Q) (h2 : ¬ y < x → Wk l Z M md pc' L S w cu su Q) : Wk l Z M md pc L (.int y :: .int x :: S) w cu su Q :=
  fun en p e s m args below meth c T locs r X K hz hF hR hL => by
  obtain ⟨hd, rfl, h3, h4⟩ := hd
  by_cases q : y < x
  · exact (h1 q en p e s m args below meth c T locs r X K hz hF hR hL).pre (fun _ q => q) fun t k => XS.icmpYes X.here K.1 rfl rfl (hb K.by hd) rfl (tlt q).2.2.1 h3 h4 k
  · exact (h2 q en p e s m args below meth c T locs r X K hz hF hR hL).pre (fun _ q => q) fun t k => XS.icmpNo X.here K.1 rfl (hb K.by hd) rfl (flt q).2.2.1 k
theorem Wk.if_gt {x : Int32} {o : Int} {pt : Nat} (hd : InsB md pc (.ifCond .gt o) 3 pc' o pt) (h1 : 0 < x → Wk l Z M md pt L S w cu su Q) (h2 : ¬ 0 < x → Wk l Z M md pc' L S w cu su Q) : Wk l Z M md pc L (.int x :: S) w cu su Q :=
  fun en p e s m args below meth c T locs r X K hz hF hR hL => by
  obtain ⟨hd, rfl, h3, h4⟩ := hd
  by_cases q : 0 < x
  · exact (h1 q en p e s m args below meth c T locs r X K hz hF hR hL).pre (fun _ q => q) fun t k => XS.ifYes X.here K.1 rfl rfl (hb K.by hd) rfl ((if0 _ _).trans (tlt q).2.2.1) h3 h4 k
  · exact (h2 q en p e s m args below meth c T locs r X K hz hF hR hL).pre (fun _ q => q) fun t k => XS.ifNo X.here K.1 rfl (hb K.by hd) rfl ((if0 _ _).trans (flt q).2.2.1) k
theorem Wk.icmp_le {x y : Int32} {o : Int} {pt : Nat} (hd : InsB md pc (.if_icmp .le o) 3 pc' o pt) (h1 : ¬ y < x → Wk l Z M md pt L S w cu su Q) (h2 : y < x → Wk l Z M md pc' L S w cu su Q) : Wk l Z M md pc L (.int y :: .int x :: S) w cu su Q :=
  fun en p e s m args below meth c T locs r X K hz hF hR hL => by
  obtain ⟨hd, rfl, h3, h4⟩ := hd
  by_cases q : y < x
  · exact (h2 q en p e s m args below meth c T locs r X K hz hF hR hL).pre (fun _ q => q) fun t k => XS.icmpNo X.here K.1 rfl (hb K.by hd) rfl (tlt q).2.2.2 k
  · exact (h1 q en p e s m args below meth c T locs r X K hz hF hR hL).pre (fun _ q => q) fun t k => XS.icmpYes X.here K.1 rfl rfl (hb K.by hd) rfl (flt q).2.2.2 h3 h4 k
theorem Wk.if_le {x : Int32} {o : Int} {pt : Nat} (hd : InsB md pc (.ifCond .le o) 3 pc' o pt) (h1 : ¬ 0 < x → Wk l Z M md pt L S w cu su Q) (h2 : 0 < x → Wk l Z M md pc' L S w cu su Q) : Wk l Z M md pc L (.int x :: S) w cu su Q :=
  fun en p e s m args below meth c T locs r X K hz hF hR hL => by
  obtain ⟨hd, rfl, h3, h4⟩ := hd
  by_cases q : 0 < x
  · exact (h2 q en p e s m args below meth c T locs r X K hz hF hR hL).pre (fun _ q => q) fun t k => XS.ifNo X.here K.1 rfl (hb K.by hd) rfl ((if0 _ _).trans (tlt q).2.2.2) k
  · exact (h1 q en p e s m args below meth c T locs r X K hz hF hR hL).pre (fun _ q => q) fun t k => XS.ifYes X.here K.1 rfl rfl (hb K.by hd) rfl ((if0 _ _).trans (flt q).2.2.2) h3 h4 k
theorem Wk.icmp_eq {x y : Int32} {o : Int} {pt : Nat} (hd : InsB md pc (.if_icmp .eq o) 3 pc' o pt) (h1 : x = y → Wk l Z M md pt L S w cu su Q) (h2 : ¬ x = y → Wk l Z M md pc' L S w cu su Q) : Wk l Z M md pc L (.int y :: .int x :: S) w cu su Q :=
  fun en p e s m args below meth c T locs r X K hz hF hR hL => by
  obtain ⟨hd, rfl, h3, h4⟩ := hd
  by_cases q : x = y
  · exact (h1 q en p e s m args below meth c T locs r X K hz hF hR hL).pre (fun _ q => q) fun t k => XS.icmpYes X.here K.1 rfl rfl (hb K.by hd) rfl (teq q).1 h3 h4 k
  · exact (h2 q en p e s m args below meth c T locs r X K hz hF hR hL).pre (fun _ q => q) fun t k => XS.icmpNo X.here K.1 rfl (hb K.by hd) rfl (feq q).1 k
theorem Wk.if_eq {x : Int32} {o : Int} {pt : Nat} (hd : InsB md pc (.ifCond .eq o) 3 pc' o pt) (h1 : x = 0 → Wk l Z M md pt L S w cu su Q) (h2 : ¬ x = 0 → Wk l Z M md pc' L S w cu su Q) : Wk l Z M md pc L (.int x :: S) w cu su Q :=
  fun en p e s m args below meth c T locs r X K hz hF hR hL => by
  obtain ⟨hd, rfl, h3, h4⟩ := hd
  by_cases q : x = 0
  · exact (h1 q en p e s m args below meth c T locs r X K hz hF hR hL).pre (fun _ q => q) fun t k => XS.ifYes X.here K.1 rfl rfl (hb K.by hd) rfl ((if0 _ _).trans (teq q).1) h3 h4 k
  · exact (h2 q en p e s m args below meth c T locs r X K hz hF hR hL).pre (fun _ q => q) fun t k => XS.ifNo X.here K.1 rfl (hb K.by hd) rfl ((if0 _ _).trans (feq q).1) k
theorem Wk.icmp_ne {x y : Int32} {o : Int} {pt : Nat} (hd : InsB md pc (.if_icmp .ne o) 3 pc' o pt) (h1 : ¬ x = y → Wk l Z M md pt L S w cu su Q) (h2 : x = y → Wk l Z M md pc' L S w cu su Q) : Wk l Z M md pc L (.int y :: .int x :: S) w cu su Q :=
  fun en p e s m args below meth c T locs r X K hz hF hR hL => by
  obtain ⟨hd, rfl, h3, h4⟩ := hd
  by_cases q : x = y
  · exact (h2 q en p e s m args below meth c T locs r X K hz hF hR hL).pre (fun _ q => q) fun t k => XS.icmpNo X.here K.1 rfl (hb K.by hd) rfl (teq q).2 k
  · exact (h1 q en p e s m args below meth c T locs r X K hz hF hR hL).pre (fun _ q => q) fun t k => XS.icmpYes X.here K.1 rfl rfl (hb K.by hd) rfl (feq q).2 h3 h4 k
theorem Wk.if_ne {x : Int32} {o : Int} {pt : Nat} (hd : InsB md pc (.ifCond .ne o) 3 pc' o pt) (h1 : ¬ x = 0 → Wk l Z M md pt L S w cu su Q) (h2 : x = 0 → Wk l Z M md pc' L S w cu su Q) : Wk l Z M md pc L (.int x :: S) w cu su Q :=
  fun en p e s m args below meth c T locs r X K hz hF hR hL => by
  obtain ⟨hd, rfl, h3, h4⟩ := hd
  by_cases q : x = 0
  · exact (h2 q en p e s m args below meth c T locs r X K hz hF hR hL).pre (fun _ q => q) fun t k => XS.ifNo X.here K.1 rfl (hb K.by hd) rfl ((if0 _ _).trans (teq q).2) k
  · exact (h1 q en p e s m args below meth c T locs r X K hz hF hR hL).pre (fun _ q => q) fun t k => XS.ifYes X.here K.1 rfl rfl (hb K.by hd) rfl ((if0 _ _).trans (feq q).2) h3 h4 k
theorem Wk.tswIn {dflt low high o : Int} {offs : Array Int} {len pt : Nat} {x z : Int32} (hd : InsB md pc (.tableswitch dflt low high offs) len pc' o pt) (hx : x = z) (hin : ¬ (z.toInt < low ∨ z.toInt > high)) (hoff : offs[(z.toInt - low).toNat]? = some o) (h : Wk l Z M md pt L S w cu su Q) : Wk l Z M md pc L (.int x :: S) w cu su Q :=
  fun en p e s m args below meth c T locs r X K hz hF hR hL => by
  obtain ⟨hd, rfl, h3, h4⟩ := hd
  subst hx
  exact (h en p e s m args below meth c T locs r X K hz hF hR hL).pre (fun _ q => q) fun t k => XS.tswIn X.here K.1 rfl rfl (hb K.by hd) rfl hin hoff h3 h4 k
theorem Wk.tswOut {dflt low high : Int} {offs : Array Int} {len pt : Nat} {x : Int32} (hd : InsB md pc (.tableswitch dflt low high offs) len pc' dflt pt) (hout : x.toInt < low ∨ x.toInt > high) (h : Wk l Z M md pt L S w cu su Q) : Wk l Z M md pc L (.int x :: S) w cu su Q :=
  fun en p e s m args below meth c T locs r X K hz hF hR hL => by
  obtain ⟨hd, rfl, h3, h4⟩ := hd
  exact (h en p e s m args below meth c T locs r X K hz hF hR hL).pre (fun _ q => q) fun t k => XS.tswOut X.here K.1 rfl rfl (hb K.by hd) rfl hout h3 h4 k
theorem Wk.ldc {idx : Nat} {z : Int32} {a0 : Array Value} (hd : InsA md pc (.ldc idx) 2 pc') (wd : (Cond.constant M.own idx z).before a0 Z = true) (h : Wk l Z M md pc' L (.int z :: S) w cu su Q) : Wk l Z M md pc L S w cu su Q :=
  fun en p e s m args below meth c T locs r X K hz hF hR hL => by
  obtain ⟨hd, rfl⟩ := hd
  have hc : (Cond.constant M.own idx z).before args s = true := mvT K.2.1 wd
  exact (h en p e s m args below meth c T locs r X K hz hF hR hL).pre (fun _ q => q) fun t k => X.ldcInt K.1 K.2.2.1 hc (g := mkF m pc r (S.map (rv (M.rho en)))) rfl (hb K.by hd) t k
theorem Wk.ldcw {idx : Nat} {z : Int32} {a0 : Array Value} (hd : InsA md pc (.ldc_w idx) 3 pc') (wd : (Cond.constant M.own idx z).before a0 Z = true) (h : Wk l Z M md pc' L (.int z :: S) w cu su Q) : Wk l Z M md pc L S w cu su Q :=
  fun en p e s m args below meth c T locs r X K hz hF hR hL => by
  obtain ⟨hd, rfl⟩ := hd
  have hc : (Cond.constant M.own idx z).before args s = true := mvT K.2.1 wd
  exact (h en p e s m args below meth c T locs r X K hz hF hR hL).pre (fun _ q => q) fun t k => X.ldcwInt K.1 K.2.2.1 hc (g := mkF m pc r (S.map (rv (M.rho en)))) rfl (hb K.by hd) t k
theorem Wk.ldc2 {idx : Nat} {z : Int64} {a0 : Array Value} (hd : InsA md pc (.ldc2_w idx) 3 pc') (wd : (Cond.constantLong M.own idx z).before a0 Z = true) (h : Wk l Z M md pc' L (.long z :: S) w cu su Q) : Wk l Z M md pc L S w cu su Q :=
  fun en p e s m args below meth c T locs r X K hz hF hR hL => by
  obtain ⟨hd, rfl⟩ := hd
  have hc : (Cond.constantLong M.own idx z).before args s = true := mvT K.2.1 wd
  exact (h en p e s m args below meth c T locs r X K hz hF hR hL).pre (fun _ q => q) fun t k => X.ldc2Long K.1 K.2.2.1 hc (g := mkF m pc r (S.map (rv (M.rho en)))) rfl (hb K.by hd) t k
/-! returns -/
theorem Wk.ireturn {x : Int32} (hM : ∀ en h, M.frm en h h) (hret : rtOf md = some .int) (hd : InsA md pc .ireturn 1 pc') (hc : cu = exOf md) (hc2 : exOf md ≤ (rmOf md).cells) (hs : su ≤ (rmOf md).slots) (hq : Q (some (.int x)) w) : Wk l Z M md pc L (.int x :: S) w cu su Q :=
  fun en p e s m args below meth c T locs r X K hz hF hR hL => by
  subst hc
  have hr := K.2.2.2.2.1.trans hret
  exact ⟨T, locs, su, _, w, X, hc2, hs, hz, hF, hR, hM _ _, fun q => (by rw [hr] at q; cases q), fun ρ y e => (by cases e; rfl), hq, fun fs hf => retI X K.1 hr (hb K.by hd.1) hf⟩
theorem Wk.zreturn {x y : Int32} (hM : ∀ en h, M.frm en h h) (hret : rtOf md = some .boolean) (hd : InsA md pc .ireturn 1 pc') (hc : cu = exOf md) (hc2 : exOf md ≤ (rmOf md).cells) (hs : su ≤ (rmOf md).slots) (hy : nar .boolean x = y) (hq : Q (some (.int y)) w) : Wk l Z M md pc L (.int x :: S) w cu su Q :=
  fun en p e s m args below meth c T locs r X K hz hF hR hL => by
  subst hc hy
  have hr := K.2.2.2.2.1.trans hret
  exact ⟨T, locs, su, _, w, X, hc2, hs, hz, hF, hR, hM _ _, fun q => (by rw [hr] at q; cases q), fun ρ y e => (by cases e; rfl), hq, fun fs hf => retN X K.1 (t := .boolean) hr (by simp) (hb K.by hd.1) hf⟩
theorem Wk.lreturn {x : Int64} (hM : ∀ en h, M.frm en h h) (hret : rtOf md = some .long) (hd : InsA md pc .lreturn 1 pc') (hc : cu = exOf md) (hc2 : exOf md ≤ (rmOf md).cells) (hs : su ≤ (rmOf md).slots) (hq : Q (some (.long x)) w) : Wk l Z M md pc L [.long x] w cu su Q :=
  fun en p e s m args below meth c T locs r X K hz hF hR hL => by
  subst hc
  have hr := K.2.2.2.2.1.trans hret
  exact ⟨T, locs, su, _, w, X, hc2, hs, hz, hF, hR, hM _ _, fun q => (by rw [hr] at q; cases q), fun ρ y e => (by cases e; rfl), hq, fun fs hf => X.lreturnOut K.1 hr (hb K.by hd.1) hf⟩
theorem Wk.ret (hM : ∀ en h, M.frm en h h) (hret : rtOf md = none) (hd : InsA md pc .return_ 1 pc') (hc : cu = exOf md) (hc2 : exOf md ≤ (rmOf md).cells) (hs : su ≤ (rmOf md).slots) (hq : Q none w) : Wk l Z M md pc L [] w cu su Q :=
  fun en p e s m args below meth c T locs r X K hz hF hR hL => by
  subst hc
  have hr := K.2.2.2.2.1.trans hret
  exact ⟨T, locs, su, none, w, X, hc2, hs, hz, hF, hR, hM _ _, fun _ => rfl, fun ρ y e => (by cases e), hq, fun fs hf => X.returnOut K.1 hr (hb K.by hd.1) hf⟩
/-! a walk from the entry is a contract -/
theorem Wk.met (h : Wk l Z M md 0 L [] w 0 0 Q) (hp : plainName (nmOf md).cls = true) (ho : M.own = (nmOf md).cls) {en : E} {h0 : Heap} (hR : M.rel en w h0) (as : List Value) (hL : (argsToLocals as.toArray (mxOf md)).toList = L) (hw : wfL L = true) (ws : List Jvm.Cond) :
    MetFree l (nmOf md) (head1 (Jvm.Cond.code (nmOf md) (byOf md) (mxOf md) (rtOf md) :: ws) (rmOf md)) (fun a U => a = (as.map (rv (M.rho en))).toArray ∧ Z.Warmed39 U.vm ∧ U.heap = h0) (fun _ _ _ _ _ => True)
      (fun _ U o U' => ∃ v Lc, o = .returned v ∧ (∃ w', Q v w' ∧ M.rel en w' U'.heap ∧ M.frm en h0 U'.heap ∧ Fr (M.lo en) Lc ∧ U'.heap.size = h0.size + exOf md ∧ ∀ ρ x, v = some x → rv ρ x = x) ∧ FrameEnd U o U' Lc (rmOf md).cells (rmOf md).slots) := by
  refine MetFree.of_bodySF (plainFor_of_name hp) hisR ?_
  intro p e s m args below meth c s₁ Bd hml0 hP hK
  obtain ⟨rfl, hZ, hh⟩ := hP
  have hown : s.vm.findClass (nmOf md).cls = some m.cls := findClass_of_methodNamed Bd.named
  have hnm := (name_of_methodNamed Bd.named Bd.method).1
  have X0 : Stand p l e (rmOf md) s m (as.map (rv (M.rho en))).toArray below meth c s₁ [] 0 0 := Stand.of_body Bd
  have e0 : s₁.heap = s.heap := by rw [Bd.state]; rfl
  subst hh
  obtain ⟨T', locs', su', v, w', a1, a2, a3, a4, a5, a6, a7, a8, a9, a10, a11⟩ := h en p e s m _ below meth c s₁ [] _ X0 ⟨Bd.exec, hZ, by rw [ho]; exact hown, hnm, Bd.returns, BodyLoose.notSynchronized Bd, Bd.bytes, hml0⟩ (by rw [e0]; rfl) (Fr.nil _) (by rw [e0]; exact hR) (SR.entry (M.rho en) as (mxOf md) hL hw)
  obtain ⟨fs, hr, hrun, hended, hW, hsame⟩ := a1.leave (v := v) a8 (BodyLoose.notSynchronized Bd)
  rw [e0] at a7
  exact ⟨_, _, a11 fs hr, hrun, hended, v, locs', rfl, ⟨w', a10, a6, a7, a5, a4, a9⟩, ⟨_, rfl⟩, hW, hsame.mono a2 a3⟩
end Steps
end Jvm.Own

namespace Jvm.Own
open Jvm Jvm.ClassFile Sem Op Lib Jvm.Free Jvm.Stand Jvm.LawKit Jvm.RoadKit
/-! ## 3. One object of the project's class, with its arrays behind it -/
/-- how many arrays are made; the ints; the longs; the arrays of ints (and booleans); of longs -/
abbrev WO : Type := Nat × (Nat → Int32) × (Nat → Int64) × (Nat → Int32 → Int32) × (Nat → Int32 → Int64)
/-- the class; its fields of ints and booleans (number, name, descriptor); of longs; of arrays, in the order in which they are made -/
abbrev CD : Type := String × List (Nat × String × String) × List (Nat × String) × List (Nat × String × String × FieldType × Int32)
def ups {κ α : Type} [DecidableEq κ] (f : κ → α) (i : κ) (x : α) : κ → α := fun k => if k = i then x else f k
theorem ups_at {κ α : Type} [DecidableEq κ] (f : κ → α) (i : κ) (x : α) : ups f i x i = x := by simp [ups]
theorem ups_ne {κ α : Type} [DecidableEq κ] (f : κ → α) {i k : κ} (x : α) (h : k ≠ i) : ups f i x k = f k := by simp [ups, h]
def el : FieldType → Int32 → Int64 → Value
  | .long, _, j => .long j
  | _, i, _ => .int i
theorem el_int {ty : FieldType} (h : ty ≠ .long) (i : Int32) (j : Int64) : el ty i j = .int i := by cases ty <;> first | rfl | exact absurd rfl h
def AtA (Z : State) (h : Heap) (b : Addr) (ty : FieldType) (n : Int32) (f : Int32 → Int32) (g : Int32 → Int64) : Prop :=
  ∃ cl, Arr Z h b cl ty ∧ cl.slots.size = n.toNatClampNeg ∧ ∀ x : Int32, ¬ x < 0 → x < n → cl.slots[x.toNatClampNeg]? = some (el ty (f x) (g x))
def relC (Z : State) (cd : CD) (en : Nat × Nat) (w : WO) (h : Heap) : Prop :=
  en.2 ≤ en.1 ∧ Exa Z h en.1 cd.1 ∧ (∀ t ∈ cd.2.1, Fld Z h en.1 cd.1 t.2.1 t.2.2 (.int (w.2.1 t.1))) ∧ (∀ t ∈ cd.2.2.1, Fld Z h en.1 cd.1 t.2 "J" (.long (w.2.2.1 t.1))) ∧
  (∀ t ∈ cd.2.2.2, (t.1 < w.1 → Fld Z h en.1 cd.1 t.2.1 t.2.2.1 (.ref (en.1 + (t.1 + 1))) ∧ AtA Z h (en.1 + (t.1 + 1)) t.2.2.2.1 t.2.2.2.2 (w.2.2.2.1 t.1) (w.2.2.2.2 t.1)) ∧ (¬ t.1 < w.1 → Fld Z h en.1 cd.1 t.2.1 t.2.2.1 .null)) ∧
  (w.1 < cd.2.2.2.length → h.size = en.1 + 1 + w.1)
def frmC (cd : CD) (en : Nat × Nat) (h h' : Heap) : Prop := h.size ≤ h'.size ∧ ∀ (x : Nat) (c : Cell), h[x]? = some c → (x < en.1 ∨ en.1 + cd.2.2.2.length < x) → h'[x]? = some c
abbrev MoC (Z : State) (cd : CD) : Mode WO (Nat × Nat) := (cd.1, fun en k => en.1 + k, fun en => en.2, relC Z cd, frmC cd)
theorem nn {a b : Nat} (h : a ≠ b) : @Ne Addr a b := h
theorem frmC.refl (cd : CD) (en : Nat × Nat) (h : Heap) : frmC cd en h h := ⟨Nat.le_refl _, fun _ _ q _ => q⟩
theorem frmC.trans {cd : CD} {en : Nat × Nat} {h1 h2 h3 : Heap} (a : frmC cd en h1 h2) (b : frmC cd en h2 h3) : frmC cd en h1 h3 := ⟨Nat.le_trans a.1 b.1, fun x c q r => b.2 x c (a.2 x c q r) r⟩
theorem frmC.wr {cd : CD} {en : Nat × Nat} {h h' : Heap} {b : Nat} {sl : Nat} {v : Value} (W : Wr h h' b sl v) (h1 : en.1 ≤ b) (h2 : b ≤ en.1 + cd.2.2.2.length) : frmC cd en h h' := by
  refine ⟨Nat.le_of_eq W.size.symm, fun x c q r => ?_⟩
  obtain ⟨c', e1, -, -, -, e5, -⟩ := wr_at W q
  rw [← e5 (nn (by omega))]; exact e1
theorem frmC.ext {cd : CD} {en : Nat × Nat} {h h' : Heap} (E : Ext h h') : frmC cd en h h' := ⟨E.1, fun x c q _ => E.2 x c q⟩
def okC (cd : CD) : Prop :=
  (∀ t ∈ cd.2.1, ∀ t' ∈ cd.2.1, (t.1 = t'.1 → t = t') ∧ (t.1 ≠ t'.1 → t.2.1 ≠ t'.2.1)) ∧ (∀ t ∈ cd.2.2.1, ∀ t' ∈ cd.2.2.1, (t.1 = t'.1 → t = t') ∧ (t.1 ≠ t'.1 → t.2 ≠ t'.2)) ∧ (∀ t ∈ cd.2.2.2, ∀ t' ∈ cd.2.2.2, (t.1 = t'.1 → t = t') ∧ (t.1 ≠ t'.1 → t.2.1 ≠ t'.2.1)) ∧
  (∀ t ∈ cd.2.1, ∀ t' ∈ cd.2.2.1, t.2.1 ≠ t'.2) ∧ (∀ t ∈ cd.2.1, ∀ t' ∈ cd.2.2.2, t.2.1 ≠ t'.2.1) ∧ (∀ t ∈ cd.2.2.1, ∀ t' ∈ cd.2.2.2, t.2 ≠ t'.2.1) ∧
  (∀ t ∈ cd.2.1, parseFieldDescriptor t.2.2 = some .int ∨ parseFieldDescriptor t.2.2 = some .boolean) ∧
  (∀ t ∈ cd.2.2.2, parseFieldDescriptor t.2.2.1 = some (.array t.2.2.2.1) ∧ t.1 < cd.2.2.2.length ∧ (t.2.2.2.1 = .int ∨ t.2.2.2.1 = .boolean ∨ t.2.2.2.1 = .long) ∧ ¬ t.2.2.2.2 < 0)
/-- what the words say of the class -/
def CO (Z : State) (a0 : Array Value) (cd : CD) : Prop :=
  (∃ kk, (Cond.instantiable cd.1 kk).before a0 Z = true) ∧ (∀ t ∈ cd.2.1, Laid Z a0 cd.1 cd.1 t.2.1 t.2.2) ∧ (∀ t ∈ cd.2.2.1, Laid Z a0 cd.1 cd.1 t.2 "J") ∧ (∀ t ∈ cd.2.2.2, Laid Z a0 cd.1 cd.1 t.2.1 t.2.2.1) ∧ okC cd
theorem pJ : parseFieldDescriptor "J" = some .long := by decide +kernel
theorem snJ {Z : State} {a0 : Array Value} {C n n' d' : String} {t' : FieldType} (L : Laid Z a0 C C n "J") (L' : Laid Z a0 C C n' d') (hn : n ≠ n') (ht' : parseFieldDescriptor d' = some t') : Jvm.RoadKit.slotOf Z C n "J" ≠ Jvm.RoadKit.slotOf Z C n' d' := by
  have p := pJ
  generalize "J" = q at *
  exact slot_ne L L' hn p ht'
section Rel
variable {Z : State} {a0 : Array Value} {cd : CD} {en : Nat × Nat} {h h' : Heap} {k : Nat} {F : Nat → Int32} {G : Nat → Int64} {A : Nat → Int32 → Int32} {B : Nat → Int32 → Int64}
theorem pI (ok : CO Z a0 cd) {t : Nat × String × String} (ht : t ∈ cd.2.1) : ∃ ty, parseFieldDescriptor t.2.2 = some ty := by
  rcases ok.2.2.2.2.2.2.2.2.2.2.1 t ht with q | q <;> exact ⟨_, q⟩
theorem AtA.other {b b' : Addr} {ty : FieldType} {n : Int32} {f : Int32 → Int32} {g : Int32 → Int64} {sl : Nat} {v : Value} (W : Wr h h' b sl v) (H : AtA Z h b' ty n f g) (hne : b' ≠ b) : AtA Z h' b' ty n f g := by
  obtain ⟨cl, h1, h2, h3⟩ := H
  exact ⟨cl, h1.other W hne, h2, h3⟩
theorem AtA.ext {b' : Addr} {ty : FieldType} {n : Int32} {f : Int32 → Int32} {g : Int32 → Int64} (E : Ext h h') (H : AtA Z h b' ty n f g) : AtA Z h' b' ty n f g := by
  obtain ⟨cl, h1, h2, h3⟩ := H
  exact ⟨cl, h1.ext E, h2, h3⟩
theorem clamp_lt {x n : Int32} (h0 : ¬ x < 0) (h1 : x < n) : x.toNatClampNeg < n.toNatClampNeg := by
  simp only [Int32.lt_iff_toInt_lt, Int32.reduceToInt, Int32.toNatClampNeg] at *
  omega
theorem in_of {x n : Int32} {cl : Cell} (h2 : cl.slots.size = n.toNatClampNeg) (h0 : ¬ x < 0) (h1 : x < n) : ¬ (x < 0 ∨ cl.slots.size ≤ x.toNatClampNeg) := by
  have := clamp_lt h0 h1
  rintro (q | q)
  · exact h0 q
  · omega
theorem AtA.stI {b : Addr} {ty : FieldType} {n : Int32} {f : Int32 → Int32} {g : Int32 → Int64} {j x : Int32} (hty : ty ≠ .long) (h0 : ¬ j < 0) (h1 : j < n) (W : Wr h h' b j.toNatClampNeg (.int x)) (H : AtA Z h b ty n f g) : AtA Z h' b ty n (ups f j x) g := by
  obtain ⟨cl, g1, g2, g3⟩ := H
  refine ⟨_, g1.same W, by rw [sz_set]; exact g2, fun y y0 y1 => ?_⟩
  by_cases e : y = j
  · rw [get_hit (in_of g2 h0 h1) e, e, ups_at, el_int hty]
  · rw [get_miss h0 y0 e, ups_ne _ _ e]; exact g3 y y0 y1
theorem AtA.stJ {b : Addr} {n : Int32} {f : Int32 → Int32} {g : Int32 → Int64} {j : Int32} {x : Int64} (h0 : ¬ j < 0) (h1 : j < n) (W : Wr h h' b j.toNatClampNeg (.long x)) (H : AtA Z h b .long n f g) : AtA Z h' b .long n f (ups g j x) := by
  obtain ⟨cl, g1, g2, g3⟩ := H
  refine ⟨_, g1.same W, by rw [sz_set]; exact g2, fun y y0 y1 => ?_⟩
  by_cases e : y = j
  · rw [get_hit (in_of g2 h0 h1) e, e, ups_at]; rfl
  · rw [get_miss h0 y0 e, ups_ne _ _ e]; exact g3 y y0 y1
theorem relC.putI (ok : CO Z a0 cd) {i : Nat} {n d : String} {x : Int32} (hR : relC Z cd en (k, F, G, A, B) h) (ht : (i, n, d) ∈ cd.2.1) (W : Wr h h' en.1 (Jvm.RoadKit.slotOf Z cd.1 n d) (.int x)) : relC Z cd en (k, ups F i x, G, A, B) h' := by
  obtain ⟨r1, r2, r3, r4, r5, r6⟩ := hR
  obtain ⟨-, o2, o3, o4, q1, q2, q3, q4, q5, q6, q7, q8⟩ := ok
  obtain ⟨ty0, p0⟩ : ∃ ty, parseFieldDescriptor d = some ty := by rcases q7 _ ht with q | q <;> exact ⟨_, q⟩
  refine ⟨r1, r2.wr W, fun t m => ?_, fun t m => ?_, fun t m => ⟨fun hk => ?_, fun hk => ?_⟩, fun q => ?_⟩
  · obtain ⟨u1, u2⟩ := q1 _ m _ ht
    by_cases e : t.1 = i
    · have e2 := u1 e
      subst e2
      show Fld Z h' en.1 cd.1 n d (.int (ups F i x i))
      rw [ups_at]
      exact (r3 _ ht).same W
    · show Fld Z h' en.1 cd.1 _ _ (.int (ups F i x t.1))
      rw [ups_ne _ _ e]
      obtain ⟨ty1, p1⟩ : ∃ ty, parseFieldDescriptor t.2.2 = some ty := by rcases q7 _ m with q | q <;> exact ⟨_, q⟩
      have z0 := slot_ne (o2 _ m) (o2 _ ht) (u2 e) p1 p0
      exact (r3 t m).other W (Or.inr z0)
  · have e1 := o3 _ m
    have e2 := o2 _ ht
    have e3 := q4 _ ht _ m
    have e4 := snJ e1 e2 (Ne.symm e3) p0
    have e5 := r4 t m
    exact e5.other W (Or.inr e4)
  · obtain ⟨a1, a2⟩ := (r5 t m).1 hk
    have z0 := slot_ne (o4 _ m) (o2 _ ht) (Ne.symm (q5 _ ht _ m)) (q8 _ m).1 p0
    exact ⟨a1.other W (Or.inr z0), a2.other W (nn (by omega))⟩
  · have z0 := slot_ne (o4 _ m) (o2 _ ht) (Ne.symm (q5 _ ht _ m)) (q8 _ m).1 p0
    exact ((r5 t m).2 hk).other W (Or.inr z0)
  · rw [W.size]; exact r6 q
theorem relC.putJ (ok : CO Z a0 cd) {i : Nat} {n : String} {x : Int64} (hR : relC Z cd en (k, F, G, A, B) h) (ht : (i, n) ∈ cd.2.2.1) (W : Wr h h' en.1 (Jvm.RoadKit.slotOf Z cd.1 n "J") (.long x)) : relC Z cd en (k, F, ups G i x, A, B) h' := by
  obtain ⟨r1, r2, r3, r4, r5, r6⟩ := hR
  obtain ⟨-, o2, o3, o4, q1, q2, q3, q4, q5, q6, q7, q8⟩ := ok
  refine ⟨r1, r2.wr W, fun t m => ?_, fun t m => ?_, fun t m => ⟨fun hk => ?_, fun hk => ?_⟩, fun q => ?_⟩
  · obtain ⟨ty1, p1⟩ : ∃ ty, parseFieldDescriptor t.2.2 = some ty := by rcases q7 _ m with q | q <;> exact ⟨_, q⟩
    have z0 := Ne.symm (snJ (o3 _ ht) (o2 _ m) (Ne.symm (q4 _ m _ ht)) p1)
    exact (r3 t m).other W (Or.inr z0)
  · obtain ⟨u1, u2⟩ := q2 _ m _ ht
    by_cases e : t.1 = i
    · have e2 := u1 e
      subst e2
      show Fld Z h' en.1 cd.1 n "J" (.long (ups G i x i))
      rw [ups_at]
      exact (r4 _ ht).same W
    · show Fld Z h' en.1 cd.1 _ _ (.long (ups G i x t.1))
      rw [ups_ne _ _ e]
      have z0 := snJ (o3 _ m) (o3 _ ht) (u2 e) pJ
      exact (r4 t m).other W (Or.inr z0)
  · obtain ⟨a1, a2⟩ := (r5 t m).1 hk
    have z0 := Ne.symm (snJ (o3 _ ht) (o4 _ m) (q6 _ ht _ m) (q8 _ m).1)
    exact ⟨a1.other W (Or.inr z0), a2.other W (nn (by omega))⟩
  · have z0 := Ne.symm (snJ (o3 _ ht) (o4 _ m) (q6 _ ht _ m) (q8 _ m).1)
    exact ((r5 t m).2 hk).other W (Or.inr z0)
  · rw [W.size]; exact r6 q
theorem relC.stI (ok : CO Z a0 cd) {i : Nat} {n d : String} {ty : FieldType} {len j x : Int32} (hty : ty ≠ .long) (h0 : ¬ j < 0) (h1 : j < len) (hR : relC Z cd en (k, F, G, A, B) h) (ht : (i, n, d, ty, len) ∈ cd.2.2.2) (W : Wr h h' (en.1 + (i + 1)) j.toNatClampNeg (.int x)) : relC Z cd en (k, F, G, ups A i (ups (A i) j x), B) h' := by
  obtain ⟨r1, r2, r3, r4, r5, r6⟩ := hR
  obtain ⟨-, o2, o3, o4, q1, q2, q3, q4, q5, q6, q7, q8⟩ := ok
  refine ⟨r1, r2.wr W, fun t m => (r3 t m).other W (Or.inl (nn (by omega))), fun t m => (r4 t m).other W (Or.inl (nn (by omega))), fun t m => ⟨fun hk => ?_, fun hk => ((r5 t m).2 hk).other W (Or.inl (nn (by omega)))⟩, fun q => by rw [W.size]; exact r6 q⟩
  obtain ⟨a1, a2⟩ := (r5 t m).1 hk
  refine ⟨a1.other W (Or.inl (nn (by omega))), ?_⟩
  obtain ⟨u1, u2⟩ := q3 _ m _ ht
  show AtA Z h' _ _ _ (ups A i (ups (A i) j x) t.1) (B t.1)
  by_cases e : t.1 = i
  · have e2 := u1 e
    subst e2
    rw [ups_at]
    exact a2.stI hty h0 h1 W
  · rw [ups_ne _ _ e]
    exact a2.other W (nn (by omega))
theorem relC.stJ (ok : CO Z a0 cd) {i : Nat} {n d : String} {len j : Int32} {x : Int64} (h0 : ¬ j < 0) (h1 : j < len) (hR : relC Z cd en (k, F, G, A, B) h) (ht : (i, n, d, .long, len) ∈ cd.2.2.2) (W : Wr h h' (en.1 + (i + 1)) j.toNatClampNeg (.long x)) : relC Z cd en (k, F, G, A, ups B i (ups (B i) j x)) h' := by
  obtain ⟨r1, r2, r3, r4, r5, r6⟩ := hR
  obtain ⟨-, o2, o3, o4, q1, q2, q3, q4, q5, q6, q7, q8⟩ := ok
  refine ⟨r1, r2.wr W, fun t m => (r3 t m).other W (Or.inl (nn (by omega))), fun t m => (r4 t m).other W (Or.inl (nn (by omega))), fun t m => ⟨fun hk => ?_, fun hk => ((r5 t m).2 hk).other W (Or.inl (nn (by omega)))⟩, fun q => by rw [W.size]; exact r6 q⟩
  obtain ⟨a1, a2⟩ := (r5 t m).1 hk
  refine ⟨a1.other W (Or.inl (nn (by omega))), ?_⟩
  obtain ⟨u1, u2⟩ := q3 _ m _ ht
  show AtA Z h' _ _ _ (A t.1) (ups B i (ups (B i) j x) t.1)
  by_cases e : t.1 = i
  · have e2 := u1 e
    subst e2
    rw [ups_at]
    exact a2.stJ h0 h1 W
  · rw [ups_ne _ _ e]
    exact a2.other W (nn (by omega))
theorem relC.newA (ok : CO Z a0 cd) {h1 : Heap} {n d : String} {ty : FieldType} {len : Int32} {cA : ClassId} (hR : relC Z cd en (k, F, G, A, B) h) (ht : (k, n, d, ty, len) ∈ cd.2.2.2) (hA : A k = fun _ => 0) (hB : B k = fun _ => 0) (E : Ext h h1) (N : Arr Z h1 h.size (Jvm.RoadKit.newA cA ty len) ty) (W : Wr h1 h' en.1 (Jvm.RoadKit.slotOf Z cd.1 n d) (.ref h.size)) (hz : h'.size = h.size + 1) : relC Z cd en (k + 1, F, G, A, B) h' := by
  obtain ⟨r1, r2, r3, r4, r5, r6⟩ := hR
  obtain ⟨-, o2, o3, o4, q1, q2, q3, q4, q5, q6, q7, q8⟩ := ok
  have hsz : h.size = en.1 + 1 + k := r6 (q8 _ ht).2.1
  refine ⟨r1, (r2.ext E).wr W, fun t m => ?_, fun t m => ?_, fun t m => ⟨fun hk => ?_, fun hk => ?_⟩, fun q => ?_⟩
  · obtain ⟨ty1, p1⟩ : ∃ ty, parseFieldDescriptor t.2.2 = some ty := by rcases q7 _ m with q | q <;> exact ⟨_, q⟩
    have z0 := slot_ne (o2 _ m) (o4 _ ht) (q5 _ m _ ht) p1 (q8 _ ht).1
    exact ((r3 t m).ext E).other W (Or.inr z0)
  · have z0 := snJ (o3 _ m) (o4 _ ht) (q6 _ m _ ht) (q8 _ ht).1
    exact ((r4 t m).ext E).other W (Or.inr z0)
  · obtain ⟨u1, u2⟩ := q3 _ m _ ht
    by_cases e : t.1 = k
    · have e2 := u1 e
      subst e2
      have f0 := ((r5 _ ht).2 (Nat.lt_irrefl k)).ext E
      refine ⟨?_, ?_⟩
      · have := f0.same W
        rw [hsz] at this
        show Fld Z h' en.1 cd.1 n d (.ref (en.1 + (k + 1)))
        rw [show en.1 + (k + 1) = en.1 + 1 + k by omega]
        exact this
      · show AtA Z h' (en.1 + (k + 1)) ty len (A k) (B k)
        rw [hA, hB, show en.1 + (k + 1) = h.size by omega]
        refine AtA.other W ⟨_, N, sz_new _ _ _, fun x x0 x1 => ?_⟩ (nn (by omega))
        rw [get_new (in_of (cl := Jvm.RoadKit.newA cA ty len) (sz_new _ _ _) x0 x1 |> fun q => by rwa [sz_new] at q)]
        have o := (q8 _ ht).2.2.1
        rcases o with o | o | o <;> (have o' : ty = _ := o; subst o'; rfl)
    · obtain ⟨a1, a2⟩ := (r5 t m).1 (by show t.1 < k; have : t.1 < k + 1 := hk; omega)
      have z0 := slot_ne (o4 _ m) (o4 _ ht) (u2 e) (q8 _ m).1 (q8 _ ht).1
      exact ⟨(a1.ext E).other W (Or.inr z0), (a2.ext E).other W (nn (by omega))⟩
  · obtain ⟨u1, u2⟩ := q3 _ m _ ht
    have hk' : ¬ t.1 < k + 1 := hk
    have z0 := slot_ne (o4 _ m) (o4 _ ht) (u2 (by show t.1 ≠ k; omega)) (q8 _ m).1 (q8 _ ht).1
    exact (((r5 t m).2 (by show ¬ t.1 < k; omega)).ext E).other W (Or.inr z0)
  · show h'.size = en.1 + 1 + (k + 1)
    omega
end Rel
section StepsC
variable {l : Launch} {Z : State} {a0 : Array Value} {cd : CD} {md : MD} {pc pc' pc1 : Nat} {L L' : List Slot} {S : List Value} {k : Nat} {F : Nat → Int32} {G : Nat → Int64} {A : Nat → Int32 → Int32} {B : Nat → Int32 → Int64} {cu su cu' su' : Nat} {Q : Option Value → WO → Prop} {idx : Nat}
theorem Wk.getI {i : Nat} {n d : String} {x : Int32} (ht : (i, n, d) ∈ cd.2.1) (wl : (Cond.fieldLink cd.1 idx cd.1 n d).before a0 Z = true) (hd : InsA md pc (.getfield idx) 3 pc') (hx : F i = x) (h : Wk l Z (MoC Z cd) md pc' L (.int x :: S) (k, F, G, A, B) cu su Q) : Wk l Z (MoC Z cd) md pc L (.ref 0 :: S) (k, F, G, A, B) cu su Q :=
  fun en p e s m args below meth c T locs r X K hz hF hR hL => by
  obtain ⟨hd, rfl⟩ := hd
  subst hx
  obtain ⟨T1, X1, e1, st⟩ := getF X K.1 K.2.1 K.2.2.1 (host := "") (Or.inl wl) Via.refl rfl (hR.2.2.1 _ ht) (g := mkF m pc r (.ref en.1 :: S.map (rv ((MoC Z cd).rho en)))) rfl rfl (hb K.by hd)
  refine (h en p e s m args below meth c T1 locs r X1 K (by rw [e1]; exact hz) hF (by rw [e1]; exact hR) hL).pre (fun _ q => by rw [e1] at q; exact q) fun t q => st t q
theorem Wk.getJ {i : Nat} {n : String} {x : Int64} (ht : (i, n) ∈ cd.2.2.1) (wl : (Cond.fieldLink cd.1 idx cd.1 n "J").before a0 Z = true) (hd : InsA md pc (.getfield idx) 3 pc') (hx : G i = x) (h : Wk l Z (MoC Z cd) md pc' L (.long x :: S) (k, F, G, A, B) cu su Q) : Wk l Z (MoC Z cd) md pc L (.ref 0 :: S) (k, F, G, A, B) cu su Q :=
  fun en p e s m args below meth c T locs r X K hz hF hR hL => by
  obtain ⟨hd, rfl⟩ := hd
  subst hx
  obtain ⟨T1, X1, e1, st⟩ := getF X K.1 K.2.1 K.2.2.1 (host := "") (Or.inl wl) Via.refl rfl (hR.2.2.2.1 _ ht) (g := mkF m pc r (.ref en.1 :: S.map (rv ((MoC Z cd).rho en)))) rfl rfl (hb K.by hd)
  refine (h en p e s m args below meth c T1 locs r X1 K (by rw [e1]; exact hz) hF (by rw [e1]; exact hR) hL).pre (fun _ q => by rw [e1] at q; exact q) fun t q => st t q
theorem Wk.getA {i i' : Nat} {n d : String} {ty : FieldType} {len : Int32} (ht : (i, n, d, ty, len) ∈ cd.2.2.2) (hi : i < k) (hi' : i + 1 = i') (wl : (Cond.fieldLink cd.1 idx cd.1 n d).before a0 Z = true) (hd : InsA md pc (.getfield idx) 3 pc') (h : Wk l Z (MoC Z cd) md pc' L (.ref i' :: S) (k, F, G, A, B) cu su Q) : Wk l Z (MoC Z cd) md pc L (.ref 0 :: S) (k, F, G, A, B) cu su Q :=
  fun en p e s m args below meth c T locs r X K hz hF hR hL => by
  obtain ⟨hd, rfl⟩ := hd
  subst hi'
  obtain ⟨T1, X1, e1, st⟩ := getF X K.1 K.2.1 K.2.2.1 (host := "") (Or.inl wl) Via.refl rfl ((hR.2.2.2.2.1 _ ht).1 hi).1 (g := mkF m pc r (.ref en.1 :: S.map (rv ((MoC Z cd).rho en)))) rfl rfl (hb K.by hd)
  refine (h en p e s m args below meth c T1 locs r X1 K (by rw [e1]; exact hz) hF (by rw [e1]; exact hR) hL).pre (fun _ q => by rw [e1] at q; exact q) fun t q => st t q
theorem Wk.putI (ok : CO Z a0 cd) {i : Nat} {n : String} {x : Int32} (ht : (i, n, "I") ∈ cd.2.1) (wl : (Cond.fieldLink cd.1 idx cd.1 n "I").before a0 Z = true) (wy : (Cond.lays cd.1 cd.1 n "I").before a0 Z = true ∨ ((Cond.laysFinal cd.1 cd.1 n "I").before a0 Z = true ∧ (nmOf md).name = "<init>")) (hd : InsA md pc (.putfield idx) 3 pc') (h : Wk l Z (MoC Z cd) md pc' L S (k, ups F i x, G, A, B) cu su Q) : Wk l Z (MoC Z cd) md pc L (.int x :: .ref 0 :: S) (k, F, G, A, B) cu su Q :=
  fun en p e s m args below meth c T locs r X K hz hF hR hL => by
  obtain ⟨hd, rfl⟩ := hd
  obtain ⟨kk, wi⟩ := ok.1
  obtain ⟨T1, h1, X1, e1, W1, st⟩ := putF X K.1 K.2.1 K.2.2.1 (host := "") (Or.inl wl) Via.refl rfl (hR.2.2.1 _ ht) hR.2.1 (wy.imp id fun q => ⟨q.1, rfl, K.2.2.2.1.trans q.2⟩) wi (ty := .int) (v := .int x) (by decide +kernel) rfl rfl (g := mkF m pc r (.int x :: .ref en.1 :: S.map (rv ((MoC Z cd).rho en)))) rfl rfl (hb K.by hd)
  subst e1
  exact (h en p e s m args below meth c T1 _ r X1 K (by rw [W1.size]; exact hz) (Fr.snoc X1 hF hR.1) (relC.putI ok hR ht W1) hL).pre (fun _ q => (frmC.wr W1 (Nat.le_refl _) (Nat.le_add_right _ _)).trans q) fun t q => st t q
theorem Wk.putZ (ok : CO Z a0 cd) {i : Nat} {n : String} {x y : Int32} (hy : nar .boolean x = y) (ht : (i, n, "Z") ∈ cd.2.1) (wl : (Cond.fieldLink cd.1 idx cd.1 n "Z").before a0 Z = true) (wy : (Cond.lays cd.1 cd.1 n "Z").before a0 Z = true ∨ ((Cond.laysFinal cd.1 cd.1 n "Z").before a0 Z = true ∧ (nmOf md).name = "<init>")) (hd : InsA md pc (.putfield idx) 3 pc') (h : Wk l Z (MoC Z cd) md pc' L S (k, ups F i y, G, A, B) cu su Q) : Wk l Z (MoC Z cd) md pc L (.int x :: .ref 0 :: S) (k, F, G, A, B) cu su Q :=
  fun en p e s m args below meth c T locs r X K hz hF hR hL => by
  obtain ⟨hd, rfl⟩ := hd
  subst hy
  obtain ⟨kk, wi⟩ := ok.1
  obtain ⟨T1, h1, X1, e1, W1, st⟩ := putFN X K.1 K.2.1 K.2.2.1 wl Via.refl rfl (hR.2.2.1 _ ht) hR.2.1 (wy.imp id fun q => ⟨q.1, rfl, K.2.2.2.1.trans q.2⟩) wi (ty := .boolean) (v := .int x) (v' := .int (nar .boolean x)) (by decide +kernel) rfl (fits_nar_bool x) (g := mkF m pc r (.int x :: .ref en.1 :: S.map (rv ((MoC Z cd).rho en)))) rfl rfl (hb K.by hd)
  subst e1
  exact (h en p e s m args below meth c T1 _ r X1 K (by rw [W1.size]; exact hz) (Fr.snoc X1 hF hR.1) (relC.putI ok hR ht W1) hL).pre (fun _ q => (frmC.wr W1 (Nat.le_refl _) (Nat.le_add_right _ _)).trans q) fun t q => st t q
theorem Wk.putJ (ok : CO Z a0 cd) {i : Nat} {n : String} {x : Int64} (ht : (i, n) ∈ cd.2.2.1) (wl : (Cond.fieldLink cd.1 idx cd.1 n "J").before a0 Z = true) (wy : (Cond.lays cd.1 cd.1 n "J").before a0 Z = true ∨ ((Cond.laysFinal cd.1 cd.1 n "J").before a0 Z = true ∧ (nmOf md).name = "<init>")) (hd : InsA md pc (.putfield idx) 3 pc') (h : Wk l Z (MoC Z cd) md pc' L S (k, F, ups G i x, A, B) cu su Q) : Wk l Z (MoC Z cd) md pc L (.long x :: .ref 0 :: S) (k, F, G, A, B) cu su Q :=
  fun en p e s m args below meth c T locs r X K hz hF hR hL => by
  obtain ⟨hd, rfl⟩ := hd
  obtain ⟨kk, wi⟩ := ok.1
  obtain ⟨T1, h1, X1, e1, W1, st⟩ := putF X K.1 K.2.1 K.2.2.1 (host := "") (Or.inl wl) Via.refl rfl (hR.2.2.2.1 _ ht) hR.2.1 (wy.imp id fun q => ⟨q.1, rfl, K.2.2.2.1.trans q.2⟩) wi (ty := .long) (v := .long x) (by decide +kernel) rfl rfl (g := mkF m pc r (.long x :: .ref en.1 :: S.map (rv ((MoC Z cd).rho en)))) rfl rfl (hb K.by hd)
  subst e1
  exact (h en p e s m args below meth c T1 _ r X1 K (by rw [W1.size]; exact hz) (Fr.snoc X1 hF hR.1) (relC.putJ ok hR ht W1) hL).pre (fun _ q => (frmC.wr W1 (Nat.le_refl _) (Nat.le_add_right _ _)).trans q) fun t q => st t q
/-- an array is made and laid into its field at once -/
theorem Wk.newA (ok : CO Z a0 cd) {aty : ArrayType} {len : Int32} {n d : String} {ty : FieldType} {k' : Nat} (hty : newarray.typeOf aty = ty) (wa : (Cond.arrayClass (newarray.typeOf aty)).before a0 Z = true) (ht : (k, n, d, ty, len) ∈ cd.2.2.2) (wl : (Cond.fieldLink cd.1 idx cd.1 n d).before a0 Z = true)
    (wy : (Cond.lays cd.1 cd.1 n d).before a0 Z = true ∨ ((Cond.laysFinal cd.1 cd.1 n d).before a0 Z = true ∧ (nmOf md).name = "<init>")) (hd : InsA md pc (.newarray aty) 2 pc1) (hd2 : InsA md pc1 (.putfield idx) 3 pc') (hA : A k = fun _ => 0) (hB : B k = fun _ => 0) (hk : k + 1 = k') (hcu : cu + 1 = cu') (hsu : su + len.toNatClampNeg = su')
    (hcap : len.toNatClampNeg * 8 ≤ 536870912) (hc : cu' ≤ (rmOf md).cells) (hs : su' ≤ (rmOf md).slots) (h : Wk l Z (MoC Z cd) md pc' L S (k', F, G, A, B) cu' su' Q) : Wk l Z (MoC Z cd) md pc L (.int len :: .ref 0 :: S) (k, F, G, A, B) cu su Q :=
  fun en p e s m args below meth c T locs r X K hz hF hR hL => by
  obtain ⟨hd, rfl⟩ := hd
  obtain ⟨hd2, rfl⟩ := hd2
  subst hk hcu hsu hty
  obtain ⟨kk, wi⟩ := ok.1
  have p8 := ok.2.2.2.2.2.2.2.2.2.2.2 _ ht
  obtain ⟨T1, h1, cA, X1, e1, E1, N1, st1⟩ := newP X K.1 K.2.1 wa rfl (g := mkF m pc r (.int len :: .ref en.1 :: S.map (rv ((MoC Z cd).rho en)))) rfl (hb K.by hd) rfl p8.2.2.2 (cap := len.toNatClampNeg) (Nat.le_refl _) hcap hc hs
  subst e1
  obtain ⟨T2, h2, X2, e2, W2, st2⟩ := putF X1 K.1 K.2.1 K.2.2.1 (host := "") (Or.inl wl) Via.refl rfl (((hR.2.2.2.2.1 _ ht).2 (Nat.lt_irrefl k)).ext E1) (hR.2.1.ext E1) (wy.imp id fun q => ⟨q.1, rfl, K.2.2.2.1.trans q.2⟩) wi (v := .ref T.heap.size) p8.1 rfl rfl (g := mkF m (pc + 2) r (.ref T.heap.size :: .ref en.1 :: S.map (rv ((MoC Z cd).rho en)))) rfl rfl (hb K.by hd2)
  subst e2
  have z1 := X1.heapSize
  have z2 : (T.heap.size : Nat) < T1.heap.size := N1.lt
  have z3 := W2.size
  exact (h en p e s m args below meth c T2 _ r X2 K (by omega) (Fr.snoc X2 hF hR.1) (relC.newA ok hR ht hA hB E1 N1 W2 (by omega)) hL).pre (fun _ q => ((frmC.ext E1).trans (frmC.wr W2 (Nat.le_refl _) (Nat.le_add_right _ _))).trans q) fun t q => st1 t (st2 t q)
theorem relC.arr {en : Nat × Nat} {h : Heap} {i : Nat} {n d : String} {ty : FieldType} {len : Int32} (hR : relC Z cd en (k, F, G, A, B) h) (ht : (i, n, d, ty, len) ∈ cd.2.2.2) (hi : i < k) : AtA Z h (en.1 + (i + 1)) ty len (A i) (B i) := ((hR.2.2.2.2.1 _ ht).1 hi).2
theorem Wk.iaload {i i' : Nat} {n d : String} {len x : Int32} {y : Int32} (ht : (i, n, d, .int, len) ∈ cd.2.2.2) (hi : i < k) (hi' : i + 1 = i') (h0 : ¬ x < 0) (h1 : x < len) (hd : InsA md pc .iaload 1 pc') (hy : A i x = y) (h : Wk l Z (MoC Z cd) md pc' L (.int y :: S) (k, F, G, A, B) cu su Q) : Wk l Z (MoC Z cd) md pc L (.int x :: .ref i' :: S) (k, F, G, A, B) cu su Q :=
  fun en p e s m args below meth c T locs r X K hz hF hR hL => by
  obtain ⟨hd, rfl⟩ := hd
  subst hi' hy
  obtain ⟨cl, g1, g2, g3⟩ := relC.arr hR ht hi
  exact (h en p e s m args below meth c T locs r X K hz hF hR hL).pre (fun _ q => q) fun t q => X.iaload K.1 (j := x) (v := .int (A i x)) g1.1 (State.isArrayOf_alike K.2.1.alike g1.2.1) g1.2.2 (in_of g2 h0 h1) (g3 x h0 h1) (g := mkF m pc r (.int x :: .ref (en.1 + (i + 1)) :: S.map (rv ((MoC Z cd).rho en)))) rfl rfl (hb K.by hd) _ q
theorem Wk.baload {i i' : Nat} {n d : String} {len x : Int32} {y : Int32} (ht : (i, n, d, .boolean, len) ∈ cd.2.2.2) (hi : i < k) (hi' : i + 1 = i') (h0 : ¬ x < 0) (h1 : x < len) (hd : InsA md pc .baload 1 pc') (hy : A i x = y) (h : Wk l Z (MoC Z cd) md pc' L (.int y :: S) (k, F, G, A, B) cu su Q) : Wk l Z (MoC Z cd) md pc L (.int x :: .ref i' :: S) (k, F, G, A, B) cu su Q :=
  fun en p e s m args below meth c T locs r X K hz hF hR hL => by
  obtain ⟨hd, rfl⟩ := hd
  subst hi' hy
  obtain ⟨cl, g1, g2, g3⟩ := relC.arr hR ht hi
  exact (h en p e s m args below meth c T locs r X K hz hF hR hL).pre (fun _ q => q) fun t q => X.baloadBooleans K.1 (j := x) (v := .int (A i x)) g1.1 (State.isArrayOf_alike K.2.1.alike g1.2.1) g1.2.2 (in_of g2 h0 h1) (g3 x h0 h1) (g := mkF m pc r (.int x :: .ref (en.1 + (i + 1)) :: S.map (rv ((MoC Z cd).rho en)))) rfl rfl (hb K.by hd) _ q
theorem Wk.laload {i i' : Nat} {n d : String} {len x : Int32} {y : Int64} (ht : (i, n, d, .long, len) ∈ cd.2.2.2) (hi : i < k) (hi' : i + 1 = i') (h0 : ¬ x < 0) (h1 : x < len) (hd : InsA md pc .laload 1 pc') (hy : B i x = y) (h : Wk l Z (MoC Z cd) md pc' L (.long y :: S) (k, F, G, A, B) cu su Q) : Wk l Z (MoC Z cd) md pc L (.int x :: .ref i' :: S) (k, F, G, A, B) cu su Q :=
  fun en p e s m args below meth c T locs r X K hz hF hR hL => by
  obtain ⟨hd, rfl⟩ := hd
  subst hi' hy
  obtain ⟨cl, g1, g2, g3⟩ := relC.arr hR ht hi
  exact (h en p e s m args below meth c T locs r X K hz hF hR hL).pre (fun _ q => q) fun t q => X.laload K.1 (j := x) (v := .long (B i x)) g1.1 (State.isArrayOf_alike K.2.1.alike g1.2.1) g1.2.2 (in_of g2 h0 h1) (g3 x h0 h1) (g := mkF m pc r (.int x :: .ref (en.1 + (i + 1)) :: S.map (rv ((MoC Z cd).rho en)))) rfl rfl (hb K.by hd) _ q
theorem Wk.iastore (ok : CO Z a0 cd) {f : Int32 → Int32} {i i' : Nat} {n d : String} {len x v : Int32} (ht : (i, n, d, .int, len) ∈ cd.2.2.2) (hf : A i = f) (hi : i < k) (hi' : i + 1 = i') (h0 : ¬ x < 0) (h1 : x < len) (hd : InsA md pc .iastore 1 pc') (h : Wk l Z (MoC Z cd) md pc' L S (k, F, G, ups A i (ups f x v), B) cu su Q) : Wk l Z (MoC Z cd) md pc L (.int v :: .int x :: .ref i' :: S) (k, F, G, A, B) cu su Q :=
  fun en p e s m args below meth c T locs r X K hz hF hR hL => by
  obtain ⟨hd, rfl⟩ := hd
  subst hi' hf
  obtain ⟨cl, g1, g2, g3⟩ := relC.arr hR ht hi
  obtain ⟨T1, e1', X1, e1, W1, st⟩ := stI X K.1 K.2.1 rfl g1 (in_of g2 h0 h1) (g := mkF m pc r (.int v :: .int x :: .ref (en.1 + (i + 1)) :: S.map (rv ((MoC Z cd).rho en)))) rfl rfl (hb K.by hd)
  subst e1
  have p8 := (ok.2.2.2.2.2.2.2.2.2.2.2 _ ht).2.1
  exact (h en p e s m args below meth c T1 _ r X1 K (by rw [W1.size]; exact hz) (Fr.snoc X1 hF (Nat.le_trans hR.1 (Nat.le_add_right _ _))) (relC.stI ok (by decide) h0 h1 hR ht W1) hL).pre (fun _ q => (frmC.wr W1 (Nat.le_add_right _ _) (Nat.add_le_add_left (show i + 1 ≤ cd.2.2.2.length from p8) _)).trans q) fun t q => st t q
theorem Wk.bastore (ok : CO Z a0 cd) {f : Int32 → Int32} {i i' : Nat} {n d : String} {len x v v' : Int32} (hv : nar .boolean v = v') (ht : (i, n, d, .boolean, len) ∈ cd.2.2.2) (hf : A i = f) (hi : i < k) (hi' : i + 1 = i') (h0 : ¬ x < 0) (h1 : x < len) (hd : InsA md pc .bastore 1 pc') (h : Wk l Z (MoC Z cd) md pc' L S (k, F, G, ups A i (ups f x v'), B) cu su Q) : Wk l Z (MoC Z cd) md pc L (.int v :: .int x :: .ref i' :: S) (k, F, G, A, B) cu su Q :=
  fun en p e s m args below meth c T locs r X K hz hF hR hL => by
  obtain ⟨hd, rfl⟩ := hd
  subst hi' hv hf
  obtain ⟨cl, g1, g2, g3⟩ := relC.arr hR ht hi
  obtain ⟨T1, e1', X1, e1, W1, st⟩ := stZ X K.1 K.2.1 rfl g1 (in_of g2 h0 h1) (g := mkF m pc r (.int v :: .int x :: .ref (en.1 + (i + 1)) :: S.map (rv ((MoC Z cd).rho en)))) rfl rfl (hb K.by hd)
  subst e1
  have p8 := (ok.2.2.2.2.2.2.2.2.2.2.2 _ ht).2.1
  exact (h en p e s m args below meth c T1 _ r X1 K (by rw [W1.size]; exact hz) (Fr.snoc X1 hF (Nat.le_trans hR.1 (Nat.le_add_right _ _))) (relC.stI ok (by decide) h0 h1 hR ht W1) hL).pre (fun _ q => (frmC.wr W1 (Nat.le_add_right _ _) (Nat.add_le_add_left (show i + 1 ≤ cd.2.2.2.length from p8) _)).trans q) fun t q => st t q
theorem Wk.lastore (ok : CO Z a0 cd) {f : Int32 → Int64} {i i' : Nat} {n d : String} {len x : Int32} {v : Int64} (ht : (i, n, d, .long, len) ∈ cd.2.2.2) (hf : B i = f) (hi : i < k) (hi' : i + 1 = i') (h0 : ¬ x < 0) (h1 : x < len) (hd : InsA md pc .lastore 1 pc') (h : Wk l Z (MoC Z cd) md pc' L S (k, F, G, A, ups B i (ups f x v)) cu su Q) : Wk l Z (MoC Z cd) md pc L (.long v :: .int x :: .ref i' :: S) (k, F, G, A, B) cu su Q :=
  fun en p e s m args below meth c T locs r X K hz hF hR hL => by
  obtain ⟨hd, rfl⟩ := hd
  subst hi' hf
  obtain ⟨cl, g1, g2, g3⟩ := relC.arr hR ht hi
  obtain ⟨T1, e1', X1, e1, W1, st⟩ := stJ X K.1 K.2.1 rfl g1 (in_of g2 h0 h1) (g := mkF m pc r (.long v :: .int x :: .ref (en.1 + (i + 1)) :: S.map (rv ((MoC Z cd).rho en)))) rfl rfl (hb K.by hd)
  subst e1
  have p8 := (ok.2.2.2.2.2.2.2.2.2.2.2 _ ht).2.1
  exact (h en p e s m args below meth c T1 _ r X1 K (by rw [W1.size]; exact hz) (Fr.snoc X1 hF (Nat.le_trans hR.1 (Nat.le_add_right _ _))) (relC.stJ ok h0 h1 hR ht W1) hL).pre (fun _ q => (frmC.wr W1 (Nat.le_add_right _ _) (Nat.add_le_add_left (show i + 1 ≤ cd.2.2.2.length from p8) _)).trans q) fun t q => st t q
/-- Object.<init> -/
theorem Wk.initO {μ E : Type} {M : Mode μ E} {w : μ} {Q : Option Value → μ → Prop} {v : Nat} (w1 : (Cond.methodLink M.own idx Lib.objectInit).before a0 Z = true) (w2 : (Cond.instanceMethod Lib.objectInit).before a0 Z = true) (w3 : (Cond.code Lib.objectInit ⟨#[0xb1]⟩ 1 none).before a0 Z = true) (hd : InsA md pc (.invokespecial idx) 3 pc') (hl : L.length = mxOf md) (hf : 1 ≤ (rmOf md).frames) (hW : (S.map fun v => v.category).sum + 12 ≤ (rmOf md).locals)
    (h : Wk l Z M md pc' L S w cu su Q) : Wk l Z M md pc L (.ref v :: S) w cu su Q :=
  fun en p e s m args below meth c T locs r X K hz hF hR hL => by
  obtain ⟨hd, rfl⟩ := hd
  have cs : ∀ S : List Value, ((S.map (rv (M.rho en))).map fun v => v.category).sum = (S.map fun v => v.category).sum := fun S => by rw [List.map_map]; congr 1; exact List.map_congr_left fun v _ => rv_cat _ v
  obtain ⟨T1, X1, e1, st⟩ := Jvm.RoadKit.initO X K.1 K.2.1 K.2.2.1 w1 w2 w3 rfl (g := mkF m pc r (.ref (M.rho en v) :: S.map (rv (M.rho en)))) rfl (by show r.size = _; rw [hL.1, hl]; exact K.2.2.2.2.2.2.2.symm) rfl (hb K.by hd) hf (W := (S.map fun v => v.category).sum) (by show 2 * 0 + _ ≤ _; rw [cs]; omega) hW
  exact (h en p e s m args below meth c T1 locs r X1 K (by rw [e1]; exact hz) hF (by rw [e1]; exact hR) hL).pre (fun _ q => by rw [e1] at q; exact q) fun t q => st t q
end StepsC
end Jvm.Own

namespace Jvm.Own
open Jvm Jvm.ClassFile Sem Op Lib Jvm.Free Jvm.Stand Jvm.LawKit Jvm.RoadKit
/-! ## 4. Calls -/
def noRef : List Value → Bool
  | [] => true
  | .ref _ :: _ => false
  | _ :: t => noRef t
theorem noRef.map : (as : List Value) → noRef as = true → ∀ ρ, as.map (rv ρ) = as
  | [], _, _ => rfl
  | .ref _ :: _, h, _ => by cases h
  | .int _ :: t, h, ρ => by rw [List.map_cons, noRef.map t h ρ]; rfl
  | .long _ :: t, h, ρ => by rw [List.map_cons, noRef.map t h ρ]; rfl
  | .float _ :: t, h, ρ => by rw [List.map_cons, noRef.map t h ρ]; rfl
  | .double _ :: t, h, ρ => by rw [List.map_cons, noRef.map t h ρ]; rfl
  | .null :: t, h, ρ => by rw [List.map_cons, noRef.map t h ρ]; rfl
  | .retAddr _ :: t, h, ρ => by rw [List.map_cons, noRef.map t h ρ]; rfl
/-- what the words say of a callee: an instance method -/
def CalV (Z : State) (a0 : Array Value) (md : MD) (n : Nat) : Prop :=
  plainName (nmOf md).cls = true ∧ ((nmOf md).cls ≠ "java/lang/invoke/MethodHandle" ∧ (nmOf md).cls ≠ "java/lang/invoke/VarHandle") ∧ (∀ sig, parseMethodDescriptor (nmOf md).desc = some sig → n = sig.parameters.length) ∧
  (Cond.instanceMethod (nmOf md)).before a0 Z = true ∧ (Cond.code (nmOf md) (byOf md) (mxOf md) (rtOf md)).before a0 Z = true ∧ (Cond.initialized (nmOf md).cls).before a0 Z = true ∧
  (((Cond.declares (nmOf md)).before a0 Z = true ∧ (Cond.selects (nmOf md).cls (nmOf md) (nmOf md)).before a0 Z = true) ∨ ((Cond.privateMethod (nmOf md)).before a0 Z = true ∧ ∃ kk, (Cond.instantiable (nmOf md).cls kk).before a0 Z = true))
/-- a constructor -/
def CalI (Z : State) (a0 : Array Value) (md : MD) (n : Nat) : Prop :=
  plainName (nmOf md).cls = true ∧ ((nmOf md).cls ≠ "java/lang/invoke/MethodHandle" ∧ (nmOf md).cls ≠ "java/lang/invoke/VarHandle") ∧ (∀ sig, parseMethodDescriptor (nmOf md).desc = some sig → n = sig.parameters.length) ∧
  (Cond.instanceMethod (nmOf md)).before a0 Z = true ∧ (Cond.code (nmOf md) (byOf md) (mxOf md) (rtOf md)).before a0 Z = true ∧ (Cond.initialized (nmOf md).cls).before a0 Z = true ∧ (nmOf md).name = "<init>" ∧ rtOf md = none
/-- a static method -/
def CalS (Z : State) (a0 : Array Value) (md : MD) (n : Nat) : Prop :=
  plainName (nmOf md).cls = true ∧ ((nmOf md).cls ≠ "java/lang/invoke/MethodHandle" ∧ (nmOf md).cls ≠ "java/lang/invoke/VarHandle") ∧ (∀ sig, parseMethodDescriptor (nmOf md).desc = some sig → n = sig.parameters.length) ∧
  (Cond.static (nmOf md)).before a0 Z = true ∧ (Cond.code (nmOf md) (byOf md) (mxOf md) (rtOf md)).before a0 Z = true ∧ (Cond.initialized (nmOf md).cls).before a0 Z = true
/-- the figures of a call: the operands under it weigh wt -/
def Fits (md md' : MD) (wt cu su cu' su' : Nat) : Prop :=
  (rmOf md').frames + 1 ≤ (rmOf md).frames ∧ wt + (mxOf md' + 11) + (rmOf md').locals ≤ (rmOf md).locals ∧ cu + (rmOf md').cells = cu' ∧ su + (rmOf md').slots = su' ∧ cu' ≤ (rmOf md).cells ∧ su' ≤ (rmOf md).slots ∧ exOf md' = (rmOf md').cells
instance (md md' : MD) (wt cu su cu' su' : Nat) : Decidable (Fits md md' wt cu su cu' su') := by unfold Fits; infer_instance
section Core
variable {μ E : Type} {l : Launch} {Z : State} {a0 : Array Value} {M' : Mode μ E} {md md' : MD} {own : String} {p : Program} {e : Env} {s : State} {m : MethodId} {args : Array Value} {below : List Frame} {meth : Method} {c : Code} {T : State} {locs : List Loc} {cu su cu' su' wt pc idx : Nat} {as : List Value} {L' : List Slot} {w : μ} {Q' : Option Value → μ → Prop} {en : E} {a : Addr} {r : Array Slot} {rest : List Value}
theorem coreV (X : Stand p l e (rmOf md) s m args below meth c T locs cu su) (K : Kn Z own md p s m meth c) (hd : decode (byOf md) pc = .ok (.invokevirtual idx, 3)) (wl : (Cond.methodLink own idx (nmOf md')).before a0 Z = true) (cv : CalV Z a0 md' as.length) (hcal : Wk l Z M' md' 0 L' [] w 0 0 Q') (ho : M'.own = (nmOf md').cls) (hR : M'.rel en w T.heap) (hE : Exa Z T.heap a (nmOf md').cls) (ha : M'.rho en 0 = a)
    (hL : (argsToLocals (.ref 0 :: as).toArray (mxOf md')).toList = L') (hw : wfL L' = true) (ft : Fits md md' wt cu su cu' su') (hr : r.size = mxOf md) (hrest : (rest.map fun v => v.category).sum ≤ wt) :
    ∃ v T1 Lc w1, Stand p l e (rmOf md) s m args below meth c T1 (locs ++ Lc) cu' su' ∧ Q' v w1 ∧ M'.rel en w1 T1.heap ∧ M'.frm en T.heap T1.heap ∧ Fr (M'.lo en) Lc ∧ T1.heap.size = T.heap.size + exOf md' ∧ (∀ ρ x, v = some x → rv ρ x = x) ∧
      ∀ t, Steps p.tables e below (T1.setTop (mkF m (pc + 3) r (v.toList ++ rest))) t → Steps p.tables e below (T.setTop (mkF m pc r ((as.map (rv (M'.rho en))).reverse ++ .ref a :: rest))) t := by
  obtain ⟨v1, v2, v3, v4, v5, v6, v7⟩ := cv
  obtain ⟨f1, f2, f3, f4, f5, f6, f7⟩ := ft
  subst f3 f4 ha
  obtain ⟨hx, hZ, hown, -, -, -, hby, hml⟩ := K
  have bk := backOf (s := s) (args := args) (p := p) (e := e) (below := below) (len := 3) (W := wt) (R := rmOf md) (Q := fun v hh Lc => ∃ w', Q' v w' ∧ M'.rel en w' hh ∧ M'.frm en T.heap hh ∧ Fr (M'.lo en) Lc ∧ hh.size = T.heap.size + exOf md' ∧ ∀ ρ x, v = some x → rv ρ x = x) (hcal.met v1 ho hR (.ref 0 :: as) hL hw []) hZ v5 v6 f1 f2
  have hlen : ∀ sig, parseMethodDescriptor (nmOf md').desc = some sig → (as.map (rv (M'.rho en))).length = sig.parameters.length := fun sig q => by rw [List.length_map]; exact v3 sig q
  rcases v7 with ⟨d1, d2⟩ | ⟨d1, kk, d2⟩
  · obtain ⟨cq, kq, qa, qb, qc⟩ := isOf (T := T) hZ rfl hE
    obtain ⟨v, _, ⟨T1, L1, k1, n1⟩, -, X1, ⟨Lc, hQ, l1, y1, z1⟩, st⟩ := X.virtualBack hx (y := nmOf md') (z := nmOf md') hown (mvT hZ wl) (mvT hZ d1) (notFace_of_selects (args := #[]) (mvT hZ d2)) (mvT hZ d2) (mvT hZ v4) v2 bk qa qc (g := mkF m pc r ((as.map (rv (M'.rho en))).reverse ++ .ref (M'.rho en 0) :: rest)) rfl (hr.trans hml.symm) (Steps.refl _) (argsL := as.map (rv (M'.rho en))) (rest := rest) hlen rfl (by show 2 * 0 + _ ≤ _; omega) (hb hby hd) (fun _ _ => ⟨rfl, rfl, f5, f6⟩)
    dsimp only [Pt.U, Pt.locs, Pt.cells, Pt.slots] at X1 l1 y1 z1 st hQ
    subst l1 y1 z1
    obtain ⟨w1, q1, q2, q3, q4, q5, q6⟩ := hQ
    exact ⟨v, T1, Lc, w1, X1, q1, q2, q3, q4, q5, q6, fun t q => st.trans q⟩
  · obtain ⟨cc, kc, i1, i2, i3, i4, -⟩ := Cond.instantiable_spec (mvT (s := s) (args := #[]) hZ d2)
    have hni : kc.isInterface = false := by cases hq : kc.isInterface <;> simp [hq] at i4 ⊢
    have pv : s.PrivateAt (nmOf md') := Cond.privateMethod_at (mvP hZ d1 (args := #[]))
    have sel : (Cond.selects (nmOf md').cls (nmOf md') (nmOf md')).before args s = true := selects_self_of_private i1 i2 hni pv (mvT hZ v4) v2
    obtain ⟨cq, q7, q7'⟩ := hE.cell
    obtain ⟨v, _, ⟨T1, L1, k1, n1⟩, -, X1, ⟨Lc, hQ, l1, y1, z1⟩, st⟩ := X.privateBack hx (y := nmOf md') hown (mvT hZ wl) (mvT hZ v4) sel pv (mvT hZ v5) v2 bk (g := mkF m pc r ((as.map (rv (M'.rho en))).reverse ++ .ref (M'.rho en 0) :: rest)) rfl (hr.trans hml.symm) (Steps.refl _) (a := M'.rho en 0) q7 q7' (argsL := as.map (rv (M'.rho en))) (rest := rest) hlen rfl (by show 2 * 0 + _ ≤ _; omega) (hb hby hd) (fun _ _ => ⟨rfl, rfl, f5, f6⟩)
    dsimp only [Pt.U, Pt.locs, Pt.cells, Pt.slots] at X1 l1 y1 z1 st hQ
    subst l1 y1 z1
    obtain ⟨w1, q1, q2, q3, q4, q5, q6⟩ := hQ
    exact ⟨v, T1, Lc, w1, X1, q1, q2, q3, q4, q5, q6, fun t q => st.trans q⟩
theorem coreI (X : Stand p l e (rmOf md) s m args below meth c T locs cu su) (K : Kn Z own md p s m meth c) (hd : decode (byOf md) pc = .ok (.invokespecial idx, 3)) (wl : (Cond.methodLink own idx (nmOf md')).before a0 Z = true) (cv : CalI Z a0 md' as.length) (hcal : Wk l Z M' md' 0 L' [] w 0 0 Q') (ho : M'.own = (nmOf md').cls) (hR : M'.rel en w T.heap) (ha : M'.rho en 0 = a)
    (hL : (argsToLocals (.ref 0 :: as).toArray (mxOf md')).toList = L') (hw : wfL L' = true) (ft : Fits md md' wt cu su cu' su') (hr : r.size = mxOf md) (hrest : (rest.map fun v => v.category).sum ≤ wt) :
    ∃ v T1 Lc w1, Stand p l e (rmOf md) s m args below meth c T1 (locs ++ Lc) cu' su' ∧ Q' v w1 ∧ M'.rel en w1 T1.heap ∧ M'.frm en T.heap T1.heap ∧ Fr (M'.lo en) Lc ∧ T1.heap.size = T.heap.size + exOf md' ∧ (∀ ρ x, v = some x → rv ρ x = x) ∧
      ∀ t, Steps p.tables e below (T1.setTop (mkF m (pc + 3) r (v.toList ++ rest))) t → Steps p.tables e below (T.setTop (mkF m pc r ((as.map (rv (M'.rho en))).reverse ++ .ref a :: rest))) t := by
  obtain ⟨v1, v2, v3, v4, v5, v6, v7, v8⟩ := cv
  obtain ⟨f1, f2, f3, f4, f5, f6, f7⟩ := ft
  subst f3 f4 ha
  obtain ⟨hx, hZ, hown, -, -, -, hby, hml⟩ := K
  have bk := backOf (s := s) (args := args) (p := p) (e := e) (below := below) (len := 3) (W := wt) (R := rmOf md) (Q := fun v hh Lc => ∃ w', Q' v w' ∧ M'.rel en w' hh ∧ M'.frm en T.heap hh ∧ Fr (M'.lo en) Lc ∧ hh.size = T.heap.size + exOf md' ∧ ∀ ρ x, v = some x → rv ρ x = x) (hcal.met v1 ho hR (.ref 0 :: as) hL hw []) hZ v5 v6 f1 f2
  have hlen : ∀ sig, parseMethodDescriptor (nmOf md').desc = some sig → (as.map (rv (M'.rho en))).length = sig.parameters.length := fun sig q => by rw [List.length_map]; exact v3 sig q
  rw [v8] at v5
  obtain ⟨v, _, ⟨T1, L1, k1, n1⟩, -, X1, ⟨Lc, hQ, l1, y1, z1⟩, st⟩ := X.specialBack hx (y := nmOf md') v7 hown (mvT hZ wl) (mvT hZ v4) (mvT hZ v5) v2 bk (g := mkF m pc r ((as.map (rv (M'.rho en))).reverse ++ .ref (M'.rho en 0) :: rest)) rfl (hr.trans hml.symm) (Steps.refl _) (a := M'.rho en 0) (argsL := as.map (rv (M'.rho en))) (rest := rest) hlen rfl (by show 2 * 0 + _ ≤ _; omega) (hb hby hd) (fun _ _ => ⟨rfl, rfl, f5, f6⟩)
  dsimp only [Pt.U, Pt.locs, Pt.cells, Pt.slots] at X1 l1 y1 z1 st hQ
  subst l1 y1 z1
  obtain ⟨w1, q1, q2, q3, q4, q5, q6⟩ := hQ
  exact ⟨v, T1, Lc, w1, X1, q1, q2, q3, q4, q5, q6, fun t q => st.trans q⟩
theorem coreS (X : Stand p l e (rmOf md) s m args below meth c T locs cu su) (K : Kn Z own md p s m meth c) (hd : decode (byOf md) pc = .ok (.invokestatic idx, 3)) (wl : (Cond.methodLink own idx (nmOf md')).before a0 Z = true) (cv : CalS Z a0 md' as.length) (hcal : Wk l Z M' md' 0 L' [] w 0 0 Q') (ho : M'.own = (nmOf md').cls) (hR : M'.rel en w T.heap)
    (hL : (argsToLocals as.toArray (mxOf md')).toList = L') (hw : wfL L' = true) (ft : Fits md md' wt cu su cu' su') (hr : r.size = mxOf md) (hrest : (rest.map fun v => v.category).sum ≤ wt) :
    ∃ v T1 Lc w1, Stand p l e (rmOf md) s m args below meth c T1 (locs ++ Lc) cu' su' ∧ Q' v w1 ∧ M'.rel en w1 T1.heap ∧ M'.frm en T.heap T1.heap ∧ Fr (M'.lo en) Lc ∧ T1.heap.size = T.heap.size + exOf md' ∧ (∀ ρ x, v = some x → rv ρ x = x) ∧
      ∀ t, Steps p.tables e below (T1.setTop (mkF m (pc + 3) r (v.toList ++ rest))) t → Steps p.tables e below (T.setTop (mkF m pc r ((as.map (rv (M'.rho en))).reverse ++ rest))) t := by
  obtain ⟨v1, v2, v3, v4, v5, v6⟩ := cv
  obtain ⟨f1, f2, f3, f4, f5, f6, f7⟩ := ft
  subst f3 f4
  obtain ⟨hx, hZ, hown, -, -, -, hby, hml⟩ := K
  have bk := backOf (s := s) (args := args) (p := p) (e := e) (below := below) (len := 3) (W := wt) (R := rmOf md) (Q := fun v hh Lc => ∃ w', Q' v w' ∧ M'.rel en w' hh ∧ M'.frm en T.heap hh ∧ Fr (M'.lo en) Lc ∧ hh.size = T.heap.size + exOf md' ∧ ∀ ρ x, v = some x → rv ρ x = x) (hcal.met v1 ho hR as hL hw []) hZ v5 v6 f1 f2
  have hlen : ∀ sig, parseMethodDescriptor (nmOf md').desc = some sig → (as.map (rv (M'.rho en))).length = sig.parameters.length := fun sig q => by rw [List.length_map]; exact v3 sig q
  obtain ⟨v, _, ⟨T1, L1, k1, n1⟩, -, X1, ⟨Lc, hQ, l1, y1, z1⟩, st⟩ := Jvm.LawKit.callS X hx (y := nmOf md') hown (mvT hZ wl) (mvT hZ v4) (mvT hZ v6) (mvT hZ v5) v2 bk (g := mkF m pc r ((as.map (rv (M'.rho en))).reverse ++ rest)) rfl (hr.trans hml.symm) (argsL := as.map (rv (M'.rho en))) (rest := rest) hlen rfl (by show 2 * 0 + _ ≤ _; omega) (hb hby hd) (fun _ _ => ⟨rfl, rfl, f5, f6⟩)
  dsimp only [Pt.U, Pt.locs, Pt.cells, Pt.slots] at X1 l1 y1 z1 st hQ
  subst l1 y1 z1
  obtain ⟨w1, q1, q2, q3, q4, q5, q6⟩ := hQ
  exact ⟨v, T1, Lc, w1, X1, q1, q2, q3, q4, q5, q6, fun t q => st t q⟩
end Core
theorem cat_map (ρ : Nat → Addr) (S : List Value) : ((S.map (rv ρ)).map fun v => v.category).sum = (S.map fun v => v.category).sum := by
  rw [List.map_map]; congr 1; exact List.map_congr_left fun v _ => rv_cat _ v
theorem res_map {ρ : Nat → Addr} {v : Option Value} (h : ∀ ρ x, v = some x → rv ρ x = x) (S : List Value) : (v.toList ++ S).map (rv ρ) = v.toList ++ S.map (rv ρ) := by
  cases v with
  | none => rfl
  | some x => simp [h ρ x rfl]
section CallsC
variable {l : Launch} {Z : State} {a0 : Array Value} {cd : CD} {md md' : MD} {pc pc' wt idx : Nat} {L L' : List Slot} {S stk as : List Value} {w : WO} {cu su cu' su' : Nat} {Q Q' : Option Value → WO → Prop}
/-- a method of the same object -/
theorem Wk.callC (as : List Value) (S : List Value) (hs : stk = as.reverse ++ .ref 0 :: S) (wl : (Cond.methodLink cd.1 idx (nmOf md')).before a0 Z = true) (cv : CalV Z a0 md' as.length) (hc : (nmOf md').cls = cd.1) (nr : noRef as = true) (hcal : Wk l Z (MoC Z cd) md' 0 L' [] w 0 0 Q') (hL' : (argsToLocals (.ref 0 :: as).toArray (mxOf md')).toList = L') (hw : wfL L' = true) (hl : L.length = mxOf md)
    (hwt : (S.map fun v => v.category).sum = wt) (ft : Fits md md' wt cu su cu' su') (hd : InsA md pc (.invokevirtual idx) 3 pc') (h : ∀ v w', Q' v w' → Wk l Z (MoC Z cd) md pc' L (v.toList ++ S) w' cu' su' Q) : Wk l Z (MoC Z cd) md pc L stk w cu su Q :=
  fun en p e s m args below meth c T locs r X K hz hF hR hL => by
  obtain ⟨hd, rfl⟩ := hd
  subst hs
  obtain ⟨v, T1, Lc, w1, X1, q1, q2, q3, q4, q5, q6, st⟩ := coreV (M' := MoC Z cd) (en := en) (r := r) (rest := S.map (rv ((MoC Z cd).rho en))) X K hd wl cv hcal hc.symm hR (by rw [hc]; exact hR.2.1) rfl hL' hw ft (hL.1.trans hl) (by rw [cat_map]; omega)
  have f7 := ft.2.2.1
  have f8 := ft.2.2.2.2.2.2
  have em : (as.reverse ++ .ref 0 :: S).map (rv ((MoC Z cd).rho en)) = (as.map (rv ((MoC Z cd).rho en))).reverse ++ .ref ((MoC Z cd).rho en 0) :: S.map (rv ((MoC Z cd).rho en)) := by rw [List.map_append, List.map_reverse]; rfl
  have D := h v w1 q1 en p e s m args below meth c T1 _ r X1 K (by omega) (hF.app q4) q2 hL
  rw [res_map q6] at D
  rw [em]
  exact D.pre (fun _ q => frmC.trans q3 q) st
end CallsC
section CallsS
variable {μ E : Type} {l : Launch} {Z : State} {a0 : Array Value} {M : Mode μ E} {md md' : MD} {pc pc' wt idx : Nat} {L L' : List Slot} {S stk as : List Value} {w : μ} {cu su cu' su' : Nat} {Q Q' : Option Value → μ → Prop}
/-- a static method, in the same mode -/
theorem Wk.callS (hM : ∀ en h1 h2 h3, M.frm en h1 h2 → M.frm en h2 h3 → M.frm en h1 h3) (as : List Value) (S : List Value) (hs : stk = as.reverse ++ S) (wl : (Cond.methodLink M.own idx (nmOf md')).before a0 Z = true) (cv : CalS Z a0 md' as.length) (hc : (nmOf md').cls = M.own) (hcal : Wk l Z M md' 0 L' [] w 0 0 Q') (hL' : (argsToLocals as.toArray (mxOf md')).toList = L') (hw : wfL L' = true) (hl : L.length = mxOf md)
    (hwt : (S.map fun v => v.category).sum = wt) (ft : Fits md md' wt cu su cu' su') (hd : InsA md pc (.invokestatic idx) 3 pc') (h : ∀ v w', Q' v w' → Wk l Z M md pc' L (v.toList ++ S) w' cu' su' Q) : Wk l Z M md pc L stk w cu su Q :=
  fun en p e s m args below meth c T locs r X K hz hF hR hL => by
  obtain ⟨hd, rfl⟩ := hd
  subst hs
  obtain ⟨v, T1, Lc, w1, X1, q1, q2, q3, q4, q5, q6, st⟩ := coreS (M' := M) (en := en) (r := r) (rest := S.map (rv (M.rho en))) X K hd wl cv hcal hc.symm hR hL' hw ft (hL.1.trans hl) (by rw [cat_map]; omega)
  have f7 := ft.2.2.1
  have f8 := ft.2.2.2.2.2.2
  have em : (as.reverse ++ S).map (rv (M.rho en)) = (as.map (rv (M.rho en))).reverse ++ S.map (rv (M.rho en)) := by rw [List.map_append, List.map_reverse]
  have D := h v w1 q1 en p e s m args below meth c T1 _ r X1 K (by omega) (hF.app q4) q2 hL
  rw [res_map q6] at D
  rw [em]
  exact D.pre (fun _ q => hM _ _ _ _ q3 q) st
end CallsS
/-! ## 5. The law's own level: a script of ints (or none) and some objects, made one behind the other -/
abbrev WL : Type := Int32 × (Int32 → Int32) × List WO
def w0 : WO := (0, fun _ => 0, fun _ => 0, fun _ _ => 0, fun _ _ => 0)
def rhoL (cd : CD) (en : Nat × Nat) : Nat → Addr
  | 0 => en.2
  | i + 1 => en.1 + i * (cd.2.2.2.length + 1)
def relL (Z : State) (cd : CD) (sc : Bool) (en : Nat × Nat) (w : WL) (h : Heap) : Prop :=
  (sc = true → en.2 < en.1 ∧ ¬ w.1 < 0 ∧ AtA Z h en.2 .int w.1 w.2.1 (fun _ => 0)) ∧ (∀ i x, w.2.2[i]? = some x → relC Z cd (en.1 + i * (cd.2.2.2.length + 1), en.1) x h) ∧ h.size = en.1 + (w.2.2.map fun x => x.1 + 1).sum
abbrev MoL (Z : State) (cd : CD) (own : String) (sc : Bool) : Mode WL (Nat × Nat) := (own, rhoL cd, fun en => en.1, relL Z cd sc, fun _ _ _ => True)
def allK (n : Nat) : List WO → Prop
  | [] => True
  | x :: t => x.1 = n ∧ allK n t
theorem allK.get {n : Nat} : (ws : List WO) → allK n ws → ∀ (i : Nat) (x : WO), ws[i]? = some x → x.1 = n
  | [], _, i, x, h => by simp at h
  | y :: t, h, i, x, e => by
    cases i with
    | zero => simp at e; rw [← e]; exact h.1
    | succ i => exact allK.get t h.2 i x (by simpa using e)
theorem allK.sum {n : Nat} : {ws : List WO} → allK n ws → (ws.map fun x => x.1 + 1).sum = ws.length * (n + 1)
  | [], _ => by simp
  | y :: t, h => by rw [List.map_cons, List.sum_cons, allK.sum (ws := t) h.2, h.1, List.length_cons, Nat.add_mul]; omega
theorem sum_set : (ws : List WO) → (i : Nat) → (x y : WO) → ws[i]? = some x → ((ws.set i y).map fun x => x.1 + 1).sum + x.1 = (ws.map fun x => x.1 + 1).sum + y.1
  | [], i, x, y, h => by simp at h
  | z :: t, 0, x, y, h => by simp at h; subst h; simp; omega
  | z :: t, i + 1, x, y, h => by have := sum_set t i x y (by simpa using h); simp only [List.set_cons_succ, List.map_cons, List.sum_cons]; omega
section Keep
variable {Z : State} {cd : CD} {en : Nat × Nat} {h h' : Heap} {w : WO}
theorem Fld.cells {a : Addr} {C n d : String} {v : Value} (H : Fld Z h a C n d v) (q : ∀ c, h[a]? = some c → h'[a]? = some c) : Fld Z h' a C n d v := by
  obtain ⟨cell, cf, k, i, f, h1, r⟩ := H; exact ⟨cell, cf, k, i, f, q _ h1, r⟩
theorem Exa.cells {a : Addr} {C : String} (H : Exa Z h a C) (q : ∀ c, h[a]? = some c → h'[a]? = some c) : Exa Z h' a C := by
  obtain ⟨cell, k, h1, r⟩ := H; exact ⟨cell, k, q _ h1, r⟩
theorem AtA.cells {b : Addr} {ty : FieldType} {n : Int32} {f : Int32 → Int32} {g : Int32 → Int64} (H : AtA Z h b ty n f g) (q : ∀ c, h[b]? = some c → h'[b]? = some c) : AtA Z h' b ty n f g := by
  obtain ⟨cl, h1, r⟩ := H; exact ⟨cl, ⟨q _ h1.1, h1.2⟩, r⟩
theorem relC.cells (okA : ∀ t ∈ cd.2.2.2, t.1 < cd.2.2.2.length) (hR : relC Z cd en w h) (hk : w.1 = cd.2.2.2.length) (q : ∀ x c, en.1 ≤ x → x ≤ en.1 + cd.2.2.2.length → h[x]? = some c → h'[x]? = some c) : relC Z cd en w h' := by
  obtain ⟨r1, r2, r3, r4, r5, r6⟩ := hR
  have q0 := fun c => q en.1 c (Nat.le_refl _) (Nat.le_add_right _ _)
  refine ⟨r1, Exa.cells r2 q0, fun t m => Fld.cells (r3 t m) q0, fun t m => Fld.cells (r4 t m) q0, fun t m => ⟨fun k => ⟨Fld.cells ((r5 t m).1 k).1 q0, AtA.cells ((r5 t m).1 k).2 fun c => q _ c (Nat.le_add_right _ _) (by have := okA t m; omega)⟩, fun k => Fld.cells ((r5 t m).2 k) q0⟩, fun k => absurd k (by omega)⟩
end Keep
theorem apart {N i j n x : Nat} (hne : j ≠ i) (h1 : n + j * (N + 1) ≤ x) (h2 : x ≤ n + j * (N + 1) + N) : x < n + i * (N + 1) ∨ n + i * (N + 1) + N < x := by
  rcases Nat.lt_or_gt_of_ne hne with q | q
  · left
    have := Nat.mul_le_mul_right (N + 1) (show j + 1 ≤ i from q)
    rw [Nat.add_mul] at this
    omega
  · right
    have := Nat.mul_le_mul_right (N + 1) (show i + 1 ≤ j from q)
    rw [Nat.add_mul] at this
    omega
/-- one object's walk, seen from the law's level -/
theorem relL.step {Z : State} {cd : CD} {sc : Bool} {en : Nat × Nat} {sl : Int32} {sv : Int32 → Int32} {ws : List WO} {h h' : Heap} {i : Nat} {x y : WO} (okA : ∀ t ∈ cd.2.2.2, t.1 < cd.2.2.2.length) (hR : relL Z cd sc en (sl, sv, ws) h) (hi : ws[i]? = some x) (hoth : ∀ j z, ws[j]? = some z → j ≠ i → z.1 = cd.2.2.2.length)
    (hy : relC Z cd (en.1 + i * (cd.2.2.2.length + 1), en.1) y h') (hf : frmC cd (en.1 + i * (cd.2.2.2.length + 1), en.1) h h') (hz : h'.size + x.1 = h.size + y.1) : relL Z cd sc en (sl, sv, ws.set i y) h' := by
  obtain ⟨r1, r2, r3⟩ := hR
  refine ⟨fun q => ?_, fun j z hj => ?_, ?_⟩
  · obtain ⟨a1, a2, a3⟩ := r1 q
    refine ⟨a1, a2, AtA.cells a3 fun c hc => hf.2 _ c hc (Or.inl ?_)⟩
    show en.2 < en.1 + i * (cd.2.2.2.length + 1)
    omega
  · have hj' : (ws.set i y)[j]? = some z := hj
    rw [List.getElem?_set] at hj'
    by_cases e : i = j
    · subst e
      have : i < ws.length := (List.getElem?_eq_some_iff.mp hi).1
      simp [this] at hj'
      subst hj'
      exact hy
    · rw [if_neg e] at hj'
      exact relC.cells okA (r2 j z hj') (hoth j z hj' (Ne.symm e)) fun a c h1 h2 hc => hf.2 a c hc (apart (Ne.symm e) h1 h2)
  · have s1 := sum_set ws i x y hi
    have s2 : h.size = en.1 + (ws.map fun x => x.1 + 1).sum := r3
    show h'.size = en.1 + ((ws.set i y).map fun x => x.1 + 1).sum
    omega
section StepsL
variable {l : Launch} {Z : State} {a0 : Array Value} {cd : CD} {own : String} {sc : Bool} {md md' : MD} {pc pc' wt idx : Nat} {L L' : List Slot} {S stk as : List Value} {sl : Int32} {sv : Int32 → Int32} {ws ws' : List WO} {cu su cu' su' : Nat} {Q : Option Value → WL → Prop} {Q' : Option Value → WO → Prop}
theorem Wk.lenL (hd : InsA md pc .arraylength 1 pc') (h : Wk l Z (MoL Z cd own true) md pc' L (.int sl :: S) (sl, sv, ws) cu su Q) : Wk l Z (MoL Z cd own true) md pc L (.ref 0 :: S) (sl, sv, ws) cu su Q :=
  fun en p e s m args below meth c T locs r X K hz hF hR hL => by
  obtain ⟨hd, rfl⟩ := hd
  obtain ⟨a1, a2, cl, g1, g2, g3⟩ := hR.1 rfl
  have e1 : cl.slots.size.toInt32 = sl := by rw [g2]; exact (back32 a2).1
  refine (h en p e s m args below meth c T locs r X K hz hF hR hL).pre (fun _ q => q) fun t q => X.arraylength K.1 g1.1 (State.isArrayOf_alike K.2.1.alike g1.2.1) (g := mkF m pc r (.ref en.2 :: S.map (rv (rhoL cd en)))) rfl rfl (hb K.by hd) _ (by rw [e1]; exact q)
theorem Wk.ialoadL {x : Int32} (h0 : ¬ x < 0) (h1 : x < sl) (hd : InsA md pc .iaload 1 pc') (h : Wk l Z (MoL Z cd own true) md pc' L (.int (sv x) :: S) (sl, sv, ws) cu su Q) : Wk l Z (MoL Z cd own true) md pc L (.int x :: .ref 0 :: S) (sl, sv, ws) cu su Q :=
  fun en p e s m args below meth c T locs r X K hz hF hR hL => by
  obtain ⟨hd, rfl⟩ := hd
  obtain ⟨a1, a2, cl, g1, g2, g3⟩ := hR.1 rfl
  exact (h en p e s m args below meth c T locs r X K hz hF hR hL).pre (fun _ q => q) fun t q => X.iaload K.1 (j := x) (v := .int (sv x)) g1.1 (State.isArrayOf_alike K.2.1.alike g1.2.1) g1.2.2 (in_of g2 h0 h1) (g3 x h0 h1) (g := mkF m pc r (.int x :: .ref en.2 :: S.map (rv (rhoL cd en)))) rfl rfl (hb K.by hd) _ q
theorem Wk.newL (ok : CO Z a0 cd) {kk i' : Nat} (wc : (Cond.classLink own idx cd.1).before a0 Z = true) (wi : (Cond.instantiable cd.1 kk).before a0 Z = true) (wz : (Cond.initialized cd.1).before a0 Z = true) (hd : InsA md pc (.new idx) 3 pc') (hall : allK cd.2.2.2.length ws) (hi : ws.length + 1 = i') (hws : ws ++ [w0] = ws') (hcu : cu + 1 = cu') (hsu : su + kk = su') (hc : cu' ≤ (rmOf md).cells) (hs : su' ≤ (rmOf md).slots)
    (h : Wk l Z (MoL Z cd own sc) md pc' L (.ref i' :: S) (sl, sv, ws') cu' su' Q) : Wk l Z (MoL Z cd own sc) md pc L S (sl, sv, ws) cu su Q :=
  fun en p e s m args below meth c T locs r X K hz hF hR hL => by
  obtain ⟨hd, rfl⟩ := hd
  subst hi hws hcu hsu
  obtain ⟨T1, h1, X1, e1, E1, A1, D1, -, st⟩ := newO X K.1 K.2.1 K.2.2.1 wc wi wz rfl (g := mkF m pc r (S.map (rv (rhoL cd en)))) rfl (hb K.by hd) hc hs
  subst e1
  obtain ⟨r1, r2, r3⟩ := hR
  have r3' : T.heap.size = en.1 + (ws.map fun x => x.1 + 1).sum := r3
  have sm := hall.sum
  have z1 := X1.heapSize
  have z2 : (T.heap.size : Nat) < T1.heap.size := A1.lt
  have ea : T.heap.size = en.1 + ws.length * (cd.2.2.2.length + 1) := by rw [r3', sm]
  have okp := ok.2.2.2.2
  obtain ⟨q1, q2, q3, q4, q5, q6, q7, q8⟩ := okp
  have rel1 : relL Z cd sc en (sl, sv, ws ++ [w0]) T1.heap := by
    refine ⟨fun q => ⟨(r1 q).1, (r1 q).2.1, (r1 q).2.2.ext E1⟩, fun j z hj => ?_, ?_⟩
    · have hj' : (ws ++ [w0])[j]? = some z := hj
      by_cases e : j < ws.length
      · rw [List.getElem?_append_left e] at hj'
        exact relC.cells (fun t m => (q8 t m).2.1) (r2 j z hj') (allK.get _ hall _ _ hj') fun a c _ _ hc => E1.2 a c hc
      · have e2 : j = ws.length := by
          have := (List.getElem?_eq_some_iff.mp hj').1
          simp at this; omega
        subst e2
        simp at hj'
        subst hj'
        rw [← ea]
        refine ⟨by show en.1 ≤ T.heap.size; omega, A1, fun t m => ?_, fun t m => ?_, fun t m => ⟨fun k => absurd k (Nat.not_lt_zero _), fun _ => ?_⟩, fun _ => by show T1.heap.size = T.heap.size + 1 + 0; omega⟩
        · rcases q7 t m with q | q
          · exact D1 (ok.2.1 t m) q
          · exact D1 (ok.2.1 t m) q
        · exact D1 (ok.2.2.1 t m) pJ
        · exact D1 (ok.2.2.2.1 t m) (q8 t m).1
    · show T1.heap.size = en.1 + ((ws ++ [w0]).map fun x => x.1 + 1).sum
      rw [List.map_append, List.sum_append]
      show T1.heap.size = en.1 + ((ws.map fun x => x.1 + 1).sum + 1)
      omega
  refine (h en p e s m args below meth c T1 locs r X1 K (by omega) hF rel1 hL).pre (fun _ _ => trivial) fun t q => st t ?_
  rw [ea]
  exact q
theorem Wk.callLC (ok : CO Z a0 cd) (as : List Value) (i : Nat) (S : List Value) {i' : Nat} {x : WO} (hi' : i + 1 = i') (hs : stk = as.reverse ++ .ref i' :: S) (hx : ws[i]? = some x) (hoth : allK cd.2.2.2.length (ws.eraseIdx i)) (wl : (Cond.methodLink own idx (nmOf md')).before a0 Z = true) (cv : CalV Z a0 md' as.length) (hc : (nmOf md').cls = cd.1) (nr : noRef as = true) (hcal : Wk l Z (MoC Z cd) md' 0 L' [] x 0 0 Q') (hL' : (argsToLocals (.ref 0 :: as).toArray (mxOf md')).toList = L') (hw : wfL L' = true) (hl : L.length = mxOf md)
    (hwt : (S.map fun v => v.category).sum = wt) (ft : Fits md md' wt cu su cu' su') (hd : InsA md pc (.invokevirtual idx) 3 pc') (hk : ∀ v y, Q' v y → y.1 = x.1 + exOf md') (h : ∀ v y, Q' v y → Wk l Z (MoL Z cd own sc) md pc' L (v.toList ++ S) (sl, sv, ws.set i y) cu' su' Q) : Wk l Z (MoL Z cd own sc) md pc L stk (sl, sv, ws) cu su Q :=
  fun en p e s m args below meth c T locs r X K hz hF hR hL => by
  obtain ⟨hd, rfl⟩ := hd
  subst hs hi'
  have rx := hR.2.1 i x hx
  obtain ⟨v, T1, Lc, w1, X1, p1, p2, p3, p4, p5, p6, st⟩ := coreV (M' := MoC Z cd) (en := (en.1 + i * (cd.2.2.2.length + 1), en.1)) (r := r) (rest := S.map (rv (rhoL cd en))) X K hd wl cv hcal hc.symm rx (by rw [hc]; exact rx.2.1) rfl hL' hw ft (hL.1.trans hl) (by rw [cat_map]; omega)
  have f7 := ft.2.2.1
  have f8 := ft.2.2.2.2.2.2
  have em : (as.reverse ++ .ref (i + 1) :: S).map (rv (rhoL cd en)) = (as.map (rv ((MoC Z cd).rho (en.1 + i * (cd.2.2.2.length + 1), en.1)))).reverse ++ .ref ((MoC Z cd).rho (en.1 + i * (cd.2.2.2.length + 1), en.1) 0) :: S.map (rv (rhoL cd en)) := by
    rw [List.map_append, List.map_reverse, noRef.map as nr, noRef.map as nr]; rfl
  have oth : ∀ j z, ws[j]? = some z → j ≠ i → z.1 = cd.2.2.2.length := by
    intro j z hj hne
    by_cases e : j < i
    · exact allK.get _ hoth j z (by rw [List.getElem?_eraseIdx]; simp [e, hj])
    · refine allK.get _ hoth (j - 1) z ?_
      rw [List.getElem?_eraseIdx, if_neg (by omega), show j - 1 + 1 = j by omega]; exact hj
  have hkk := hk v w1 p1
  have okA : ∀ t ∈ cd.2.2.2, t.1 < cd.2.2.2.length := fun t m => (ok.2.2.2.2.2.2.2.2.2.2.2 t m).2.1
  have D := h v w1 p1 en p e s m args below meth c T1 _ r X1 K (by omega) (hF.app p4) (relL.step okA hR hx oth p2 p3 (by omega)) hL
  rw [res_map p6] at D
  show Done _ _ _ _ _ _ _ _ _ _ _ _ _ _ (mkF m pc r ((as.reverse ++ .ref (i + 1) :: S).map (rv (rhoL cd en))))
  rw [em]
  exact D.pre (fun _ _ => trivial) st
theorem Wk.ctorL (ok : CO Z a0 cd) (as : List Value) (i : Nat) (S : List Value) {i' : Nat} {x : WO} (hi' : i + 1 = i') (hs : stk = as.reverse ++ .ref i' :: S) (hx : ws[i]? = some x) (hoth : allK cd.2.2.2.length (ws.eraseIdx i)) (wl : (Cond.methodLink own idx (nmOf md')).before a0 Z = true) (cv : CalI Z a0 md' as.length) (hc : (nmOf md').cls = cd.1) (nr : noRef as = true) (hcal : Wk l Z (MoC Z cd) md' 0 L' [] x 0 0 Q') (hL' : (argsToLocals (.ref 0 :: as).toArray (mxOf md')).toList = L') (hw : wfL L' = true) (hl : L.length = mxOf md)
    (hwt : (S.map fun v => v.category).sum = wt) (ft : Fits md md' wt cu su cu' su') (hd : InsA md pc (.invokespecial idx) 3 pc') (hk : ∀ v y, Q' v y → y.1 = x.1 + exOf md') (h : ∀ v y, Q' v y → Wk l Z (MoL Z cd own sc) md pc' L (v.toList ++ S) (sl, sv, ws.set i y) cu' su' Q) : Wk l Z (MoL Z cd own sc) md pc L stk (sl, sv, ws) cu su Q :=
  fun en p e s m args below meth c T locs r X K hz hF hR hL => by
  obtain ⟨hd, rfl⟩ := hd
  subst hs hi'
  have rx := hR.2.1 i x hx
  obtain ⟨v, T1, Lc, w1, X1, p1, p2, p3, p4, p5, p6, st⟩ := coreI (M' := MoC Z cd) (en := (en.1 + i * (cd.2.2.2.length + 1), en.1)) (r := r) (rest := S.map (rv (rhoL cd en))) X K hd wl cv hcal hc.symm rx rfl hL' hw ft (hL.1.trans hl) (by rw [cat_map]; omega)
  have f7 := ft.2.2.1
  have f8 := ft.2.2.2.2.2.2
  have em : (as.reverse ++ .ref (i + 1) :: S).map (rv (rhoL cd en)) = (as.map (rv ((MoC Z cd).rho (en.1 + i * (cd.2.2.2.length + 1), en.1)))).reverse ++ .ref ((MoC Z cd).rho (en.1 + i * (cd.2.2.2.length + 1), en.1) 0) :: S.map (rv (rhoL cd en)) := by
    rw [List.map_append, List.map_reverse, noRef.map as nr, noRef.map as nr]; rfl
  have oth : ∀ j z, ws[j]? = some z → j ≠ i → z.1 = cd.2.2.2.length := by
    intro j z hj hne
    by_cases e : j < i
    · exact allK.get _ hoth j z (by rw [List.getElem?_eraseIdx]; simp [e, hj])
    · refine allK.get _ hoth (j - 1) z ?_
      rw [List.getElem?_eraseIdx, if_neg (by omega), show j - 1 + 1 = j by omega]; exact hj
  have hkk := hk v w1 p1
  have okA : ∀ t ∈ cd.2.2.2, t.1 < cd.2.2.2.length := fun t m => (ok.2.2.2.2.2.2.2.2.2.2.2 t m).2.1
  have D := h v w1 p1 en p e s m args below meth c T1 _ r X1 K (by omega) (hF.app p4) (relL.step okA hR hx oth p2 p3 (by omega)) hL
  rw [res_map p6] at D
  show Done _ _ _ _ _ _ _ _ _ _ _ _ _ _ (mkF m pc r ((as.reverse ++ .ref (i + 1) :: S).map (rv (rhoL cd en))))
  rw [em]
  exact D.pre (fun _ _ => trivial) st
end StepsL
end Jvm.Own

namespace Jvm.Own
open Jvm Jvm.ClassFile Sem Op Lib Jvm.Free Jvm.Stand Jvm.LawKit Jvm.RoadKit
/-- the class's list of fields, looked at -/
def okB (cd : CD) : Bool :=
  cd.2.1.all (fun (t : Nat × String × String) => cd.2.1.all fun t' => if t.1 = t'.1 then decide (t = t') else t.2.1 != t'.2.1) && cd.2.2.1.all (fun (t : Nat × String) => cd.2.2.1.all fun t' => if t.1 = t'.1 then decide (t = t') else t.2 != t'.2) && cd.2.2.2.all (fun (t : Nat × String × String × FieldType × Int32) => cd.2.2.2.all fun t' => if t.1 = t'.1 then decide (t = t') else t.2.1 != t'.2.1) &&
  cd.2.1.all (fun (t : Nat × String × String) => cd.2.2.1.all fun (t' : Nat × String) => t.2.1 != t'.2) && cd.2.1.all (fun (t : Nat × String × String) => cd.2.2.2.all fun (t' : Nat × String × String × FieldType × Int32) => t.2.1 != t'.2.1) && cd.2.2.1.all (fun (t : Nat × String) => cd.2.2.2.all fun (t' : Nat × String × String × FieldType × Int32) => t.2 != t'.2.1) &&
  cd.2.1.all (fun (t : Nat × String × String) => decide (parseFieldDescriptor t.2.2 = some .int) || decide (parseFieldDescriptor t.2.2 = some .boolean)) &&
  cd.2.2.2.all (fun (t : Nat × String × String × FieldType × Int32) => decide (parseFieldDescriptor t.2.2.1 = some (.array t.2.2.2.1)) && decide (t.1 < cd.2.2.2.length) && (decide (t.2.2.2.1 = .int) || decide (t.2.2.2.1 = .boolean) || decide (t.2.2.2.1 = .long)) && !decide (t.2.2.2.2 < 0))
theorem pair_of {α : Type} {L : List α} {f : α → Nat} {g : α → String} [DecidableEq α] (h : L.all (fun t => L.all fun t' => if f t = f t' then decide (t = t') else g t != g t') = true) : ∀ t ∈ L, ∀ t' ∈ L, (f t = f t' → t = t') ∧ (f t ≠ f t' → g t ≠ g t') := by
  intro t m t' m'
  have q := List.all_eq_true.mp (List.all_eq_true.mp h t m) t' m'
  constructor
  · intro e; rw [if_pos e] at q; exact of_decide_eq_true q
  · intro e; rw [if_neg e] at q; simpa using q
theorem apart_of {α β : Type} {L : List α} {L' : List β} {g : α → String} {g' : β → String} (h : L.all (fun t => L'.all fun t' => g t != g' t') = true) : ∀ t ∈ L, ∀ t' ∈ L', g t ≠ g' t' := by
  intro t m t' m'
  have q := List.all_eq_true.mp (List.all_eq_true.mp h t m) t' m'
  simpa using q
theorem okC.of {cd : CD} (h : okB cd = true) : okC cd := by
  unfold okB at h
  simp only [Bool.and_eq_true] at h
  obtain ⟨⟨⟨⟨⟨⟨⟨h1, h2⟩, h3⟩, h4⟩, h5⟩, h6⟩, h7⟩, h8⟩ := h
  refine ⟨pair_of (L := cd.2.1) (f := fun (t : Nat × String × String) => t.1) (g := fun (t : Nat × String × String) => t.2.1) h1, pair_of (L := cd.2.2.1) (f := fun (t : Nat × String) => t.1) (g := fun (t : Nat × String) => t.2) h2, pair_of (L := cd.2.2.2) (f := fun (t : Nat × String × String × FieldType × Int32) => t.1) (g := fun (t : Nat × String × String × FieldType × Int32) => t.2.1) h3, apart_of (L := cd.2.1) (L' := cd.2.2.1) (g := fun (t : Nat × String × String) => t.2.1) (g' := fun (t : Nat × String) => t.2) h4, apart_of (L := cd.2.1) (L' := cd.2.2.2) (g := fun (t : Nat × String × String) => t.2.1) (g' := fun (t : Nat × String × String × FieldType × Int32) => t.2.1) h5, apart_of (L := cd.2.2.1) (L' := cd.2.2.2) (g := fun (t : Nat × String) => t.2) (g' := fun (t : Nat × String × String × FieldType × Int32) => t.2.1) h6, fun t m => ?_, fun t m => ?_⟩
  · have q := List.all_eq_true.mp h7 t m
    simpa using q
  · have q := List.all_eq_true.mp h8 t m
    simp only [Bool.and_eq_true, Bool.or_eq_true, decide_eq_true_eq, Bool.not_eq_true', decide_eq_false_iff_not] at q
    exact ⟨q.1.1.1, q.1.1.2, by rcases q.1.2 with (a | a) | a <;> simp [a], q.2⟩
theorem nar1 : nar .boolean 1 = 1 := by decide
theorem nar0 : nar .boolean 0 = 0 := by decide
theorem nar_nar (x : Int32) : nar .boolean (nar .boolean x) = nar .boolean x := by
  show (x &&& 1) &&& 1 = x &&& 1
  rw [Int32.and_assoc]; rfl
theorem ne_toInt {x n : Int32} (q : ¬ x = n) : x.toInt ≠ n.toInt := fun h => q (Int32.toInt_inj.mp h)
/-! ## 6. The same calls where the callee's answer is known as a term -/
section FunC
variable {l : Launch} {Z : State} {a0 : Array Value} {cd : CD} {md md' : MD} {pc pc' wt idx : Nat} {L L' : List Slot} {S stk as : List Value} {w w1 : WO} {cu su cu' su' : Nat} {Q : Option Value → WO → Prop} {x : Value}
theorem Wk.callF (as : List Value) (S : List Value) (wl : (Cond.methodLink cd.1 idx (nmOf md')).before a0 Z = true) (cv : CalV Z a0 md' as.length) (hd : InsA md pc (.invokevirtual idx) 3 pc') (hcal : Wk l Z (MoC Z cd) md' 0 L' [] w 0 0 (fun v w' => v = some x ∧ w' = w1)) (ft : Fits md md' wt cu su cu' su') (hs : stk = as.reverse ++ .ref 0 :: S) (hc : (nmOf md').cls = cd.1) (nr : noRef as = true) (hL' : (argsToLocals (.ref 0 :: as).toArray (mxOf md')).toList = L') (hw : wfL L' = true) (hl : L.length = mxOf md)
    (hwt : (S.map fun v => v.category).sum = wt) (h : Wk l Z (MoC Z cd) md pc' L (x :: S) w1 cu' su' Q) : Wk l Z (MoC Z cd) md pc L stk w cu su Q :=
  Wk.callC as S hs wl cv hc nr hcal hL' hw hl hwt ft hd fun v w' q => by obtain ⟨rfl, rfl⟩ := q; exact h
theorem Wk.callU (as : List Value) (S : List Value) (wl : (Cond.methodLink cd.1 idx (nmOf md')).before a0 Z = true) (cv : CalV Z a0 md' as.length) (hd : InsA md pc (.invokevirtual idx) 3 pc') (hcal : Wk l Z (MoC Z cd) md' 0 L' [] w 0 0 (fun v w' => v = none ∧ w' = w1)) (ft : Fits md md' wt cu su cu' su') (hs : stk = as.reverse ++ .ref 0 :: S) (hc : (nmOf md').cls = cd.1) (nr : noRef as = true) (hL' : (argsToLocals (.ref 0 :: as).toArray (mxOf md')).toList = L') (hw : wfL L' = true) (hl : L.length = mxOf md)
    (hwt : (S.map fun v => v.category).sum = wt) (h : Wk l Z (MoC Z cd) md pc' L S w1 cu' su' Q) : Wk l Z (MoC Z cd) md pc L stk w cu su Q :=
  Wk.callC as S hs wl cv hc nr hcal hL' hw hl hwt ft hd fun v w' q => by obtain ⟨rfl, rfl⟩ := q; exact h
end FunC
section FunS
variable {μ E : Type} {l : Launch} {Z : State} {a0 : Array Value} {M : Mode μ E} {md md' : MD} {pc pc' wt idx : Nat} {L L' : List Slot} {S stk as : List Value} {w w1 : μ} {cu su cu' su' : Nat} {Q : Option Value → μ → Prop} {x : Value}
theorem Wk.callSF (hM : ∀ en h1 h2 h3, M.frm en h1 h2 → M.frm en h2 h3 → M.frm en h1 h3) (as : List Value) (S : List Value) (wl : (Cond.methodLink M.own idx (nmOf md')).before a0 Z = true) (cv : CalS Z a0 md' as.length) (hd : InsA md pc (.invokestatic idx) 3 pc') (hcal : Wk l Z M md' 0 L' [] w 0 0 (fun v w' => v = some x ∧ w' = w1)) (ft : Fits md md' wt cu su cu' su') (hs : stk = as.reverse ++ S) (hc : (nmOf md').cls = M.own) (hL' : (argsToLocals as.toArray (mxOf md')).toList = L') (hw : wfL L' = true) (hl : L.length = mxOf md)
    (hwt : (S.map fun v => v.category).sum = wt) (h : Wk l Z M md pc' L (x :: S) w1 cu' su' Q) : Wk l Z M md pc L stk w cu su Q :=
  Wk.callS hM as S hs wl cv hc hcal hL' hw hl hwt ft hd fun v w' q => by obtain ⟨rfl, rfl⟩ := q; exact h
theorem Wk.callSU (hM : ∀ en h1 h2 h3, M.frm en h1 h2 → M.frm en h2 h3 → M.frm en h1 h3) (as : List Value) (S : List Value) (wl : (Cond.methodLink M.own idx (nmOf md')).before a0 Z = true) (cv : CalS Z a0 md' as.length) (hd : InsA md pc (.invokestatic idx) 3 pc') (hcal : Wk l Z M md' 0 L' [] w 0 0 (fun v w' => v = none ∧ w' = w1)) (ft : Fits md md' wt cu su cu' su') (hs : stk = as.reverse ++ S) (hc : (nmOf md').cls = M.own) (hL' : (argsToLocals as.toArray (mxOf md')).toList = L') (hw : wfL L' = true) (hl : L.length = mxOf md)
    (hwt : (S.map fun v => v.category).sum = wt) (h : Wk l Z M md pc' L S w1 cu' su' Q) : Wk l Z M md pc L stk w cu su Q :=
  Wk.callS hM as S hs wl cv hc hcal hL' hw hl hwt ft hd fun v w' q => by obtain ⟨rfl, rfl⟩ := q; exact h
end FunS
section FunL
variable {l : Launch} {Z : State} {a0 : Array Value} {cd : CD} {own : String} {sc : Bool} {md md' : MD} {pc pc' wt idx : Nat} {L L' : List Slot} {S stk as : List Value} {sl : Int32} {sv : Int32 → Int32} {ws ws' : List WO} {cu su cu' su' : Nat} {Q : Option Value → WL → Prop} {v : Value} {y : WO}
theorem Wk.callLF (ok : CO Z a0 cd) (as : List Value) (i : Nat) (S : List Value) {i' : Nat} {x : WO} (wl : (Cond.methodLink own idx (nmOf md')).before a0 Z = true) (cv : CalV Z a0 md' as.length) (hd : InsA md pc (.invokevirtual idx) 3 pc') (hcal : Wk l Z (MoC Z cd) md' 0 L' [] x 0 0 (fun v' w' => v' = some v ∧ w' = y)) (ft : Fits md md' wt cu su cu' su') (hoth : allK cd.2.2.2.length (ws.eraseIdx i)) (hi' : i + 1 = i') (hs : stk = as.reverse ++ .ref i' :: S) (hx : ws[i]? = some x) (hc : (nmOf md').cls = cd.1) (nr : noRef as = true) (hL' : (argsToLocals (.ref 0 :: as).toArray (mxOf md')).toList = L') (hw : wfL L' = true) (hl : L.length = mxOf md)
    (hwt : (S.map fun v => v.category).sum = wt) (hk : y.1 = x.1 + exOf md') (hws : ws.set i y = ws') (h : Wk l Z (MoL Z cd own sc) md pc' L (v :: S) (sl, sv, ws') cu' su' Q) : Wk l Z (MoL Z cd own sc) md pc L stk (sl, sv, ws) cu su Q :=
  Wk.callLC ok as i S hi' hs hx hoth wl cv hc nr hcal hL' hw hl hwt ft hd (fun v' y' q => by obtain ⟨rfl, rfl⟩ := q; exact hk) fun v' y' q => by obtain ⟨rfl, rfl⟩ := q; subst hws; exact h
theorem Wk.callLU (ok : CO Z a0 cd) (as : List Value) (i : Nat) (S : List Value) {i' : Nat} {x : WO} (wl : (Cond.methodLink own idx (nmOf md')).before a0 Z = true) (cv : CalV Z a0 md' as.length) (hd : InsA md pc (.invokevirtual idx) 3 pc') (hcal : Wk l Z (MoC Z cd) md' 0 L' [] x 0 0 (fun v' w' => v' = none ∧ w' = y)) (ft : Fits md md' wt cu su cu' su') (hoth : allK cd.2.2.2.length (ws.eraseIdx i)) (hi' : i + 1 = i') (hs : stk = as.reverse ++ .ref i' :: S) (hx : ws[i]? = some x) (hc : (nmOf md').cls = cd.1) (nr : noRef as = true) (hL' : (argsToLocals (.ref 0 :: as).toArray (mxOf md')).toList = L') (hw : wfL L' = true) (hl : L.length = mxOf md)
    (hwt : (S.map fun v => v.category).sum = wt) (hk : y.1 = x.1 + exOf md') (hws : ws.set i y = ws') (h : Wk l Z (MoL Z cd own sc) md pc' L S (sl, sv, ws') cu' su' Q) : Wk l Z (MoL Z cd own sc) md pc L stk (sl, sv, ws) cu su Q :=
  Wk.callLC ok as i S hi' hs hx hoth wl cv hc nr hcal hL' hw hl hwt ft hd (fun v' y' q => by obtain ⟨rfl, rfl⟩ := q; exact hk) fun v' y' q => by obtain ⟨rfl, rfl⟩ := q; subst hws; exact h
theorem Wk.ctorLU (ok : CO Z a0 cd) (as : List Value) (i : Nat) (S : List Value) {i' : Nat} {x : WO} (wl : (Cond.methodLink own idx (nmOf md')).before a0 Z = true) (cv : CalI Z a0 md' as.length) (hd : InsA md pc (.invokespecial idx) 3 pc') (hcal : Wk l Z (MoC Z cd) md' 0 L' [] x 0 0 (fun v' w' => v' = none ∧ w' = y)) (ft : Fits md md' wt cu su cu' su') (hoth : allK cd.2.2.2.length (ws.eraseIdx i)) (hi' : i + 1 = i') (hs : stk = as.reverse ++ .ref i' :: S) (hx : ws[i]? = some x) (hc : (nmOf md').cls = cd.1) (nr : noRef as = true) (hL' : (argsToLocals (.ref 0 :: as).toArray (mxOf md')).toList = L') (hw : wfL L' = true) (hl : L.length = mxOf md)
    (hwt : (S.map fun v => v.category).sum = wt) (hk : y.1 = x.1 + exOf md') (hws : ws.set i y = ws') (h : Wk l Z (MoL Z cd own sc) md pc' L S (sl, sv, ws') cu' su' Q) : Wk l Z (MoL Z cd own sc) md pc L stk (sl, sv, ws) cu su Q :=
  Wk.ctorL ok as i S hi' hs hx hoth wl cv hc nr hcal hL' hw hl hwt ft hd (fun v' y' q => by obtain ⟨rfl, rfl⟩ := q; exact hk) fun v' y' q => by obtain ⟨rfl, rfl⟩ := q; subst hws; exact h
end FunL
end Jvm.Own

namespace Jvm.Own
open Jvm
/-! ## 7. Plain helpers -/
theorem lt_i {x y : Int32} : x < y ↔ x.toInt < y.toInt := Int32.lt_iff_toInt_lt
theorem add_toInt {x y : Int32} (h1 : -2147483648 ≤ x.toInt + y.toInt) (h2 : x.toInt + y.toInt < 2147483648) : (x + y).toInt = x.toInt + y.toInt := by
  rw [Int32.toInt_add]
  exact Int.bmod_eq_of_le (by omega) (by omega)
theorem sub_toInt {x y : Int32} (h1 : -2147483648 ≤ x.toInt - y.toInt) (h2 : x.toInt - y.toInt < 2147483648) : (x - y).toInt = x.toInt - y.toInt := by
  rw [Int32.toInt_sub]
  exact Int.bmod_eq_of_le (by omega) (by omega)
theorem succ_toInt {i n : Int32} (h : i < n) : (i + 1).toInt = i.toInt + 1 := by
  have h1 := lt_i.mp h
  have h2 := Int32.toInt_lt n
  have h3 := Int32.le_toInt i
  exact add_toInt (x := i) (y := 1) (by show -2147483648 ≤ i.toInt + 1; omega) (by show i.toInt + 1 < 2147483648; omega)
/-- a loop that counts up to n: backwards from its end -/
theorem loopUp {n : Int32} {P : Int32 → Prop} (hend : P n) (hstep : ∀ i, ¬ i < 0 → i < n → P (i + 1) → P i) : ∀ i, ¬ i < 0 → ¬ n < i → P i := by
  have key : ∀ (k : Nat) (i : Int32), ¬ i < 0 → ¬ n < i → (n.toInt - i.toInt).toNat = k → P i := by
    intro k
    induction k with
    | zero =>
      intro i h0 h1 hk
      have e : i = n := by
        rw [lt_i] at h1
        exact Int32.toInt_inj.mp (by omega)
      subst e; exact hend
    | succ k ih =>
      intro i h0 h1 hk
      rw [lt_i] at h1
      have hlt : i < n := lt_i.mpr (by omega)
      have hs := succ_toInt hlt
      have h0' : ¬ i.toInt < 0 := fun q => h0 (lt_i.mpr q)
      refine hstep i h0 hlt (ih (i + 1) ?_ ?_ ?_)
      · rw [lt_i, hs]; show ¬ i.toInt + 1 < 0; omega
      · rw [lt_i, hs]; omega
      · rw [hs]; omega
  exact fun i h0 h1 => key _ i h0 h1 rfl
/-- the first n places hold c -/
def fill {α : Type} (f : Int32 → α) (n : Int32) (c : α) : Int32 → α := fun x => if ¬ x < 0 ∧ x < n then c else f x
theorem fill_zero {α : Type} (f : Int32 → α) (c : α) : fill f 0 c = f := by
  funext x; exact if_neg fun q => q.1 q.2
theorem fill_succ {α : Type} (f : Int32 → α) (c : α) {i n : Int32} (h0 : ¬ i < 0) (h : i < n) : ups (fill f i c) i c = fill f (i + 1) c := by
  funext x
  have hs := succ_toInt h
  have h0' : ¬ i.toInt < 0 := fun q => h0 (lt_i.mpr q)
  unfold ups fill
  by_cases e : x = i
  · rw [if_pos e, if_pos]
    subst e
    exact ⟨h0, lt_i.mpr (by omega)⟩
  · rw [if_neg e]
    have e' : x.toInt ≠ i.toInt := fun q => e (Int32.toInt_inj.mp q)
    by_cases q : ¬ x < 0 ∧ x < i
    · rw [if_pos q, if_pos ⟨q.1, lt_i.mpr (by have := lt_i.mp q.2; omega)⟩]
    · rw [if_neg q, if_neg]
      rintro ⟨a, b⟩
      exact q ⟨a, lt_i.mpr (by have := lt_i.mp b; omega)⟩
theorem fill_in {α : Type} (f : Int32 → α) (c : α) {x n : Int32} (h0 : ¬ x < 0) (h : x < n) : fill f n c x = c := if_pos ⟨h0, h⟩
theorem ups_self {κ α : Type} [DecidableEq κ] (f : κ → α) (i : κ) : ups f i (f i) = f := by
  funext k; unfold ups; by_cases e : k = i
  · rw [if_pos e, e]
  · rw [if_neg e]
theorem ups_upd {κ α : Type} [DecidableEq κ] (f : κ → α) (i : κ) (x y : α) : ups (ups f i x) i y = ups f i y := by
  funext k; unfold ups; by_cases e : k = i
  · rw [if_pos e, if_pos e]
  · rw [if_neg e, if_neg e, if_neg e]
theorem ups_comm {κ α : Type} [DecidableEq κ] (f : κ → α) {i j : κ} (x y : α) (h : i ≠ j) : ups (ups f i x) j y = ups (ups f j y) i x := by
  funext k; unfold ups; by_cases e : k = i
  · have : k ≠ j := fun q => h (e.symm.trans q)
    rw [if_neg this, if_pos e, if_pos e]
  · by_cases e2 : k = j
    · rw [if_pos e2, if_neg e, if_pos e2]
    · rw [if_neg e2, if_neg e, if_neg e, if_neg e2]
end Jvm.Own

namespace Jvm.Own
open Jvm Jvm.Free
/-! ## 8. Bits -/
theorem toNat_toInt (x : Int32) : (x.toBitVec.toNat : Int) = x.toInt % 4294967296 := by
  have h1 : x.toInt = x.toBitVec.toInt := rfl
  rw [h1, BitVec.toInt_eq_toNat_bmod]
  have h2 := x.toBitVec.isLt
  have h3 := Int.bmod_emod (x := (x.toBitVec.toNat : Int)) (m := 2 ^ 32)
  have h4 : ((2 ^ 32 : Nat) : Int) = 4294967296 := rfl
  rw [h4] at h3
  rw [h3]; omega
theorem and_mask (x m : Int32) (k : Nat) (hk : k < 31) (hm : m.toBitVec.toNat = 2 ^ k - 1) : (x &&& m).toInt = x.toInt % ((2 ^ k : Nat) : Int) := by
  have h1 : (x &&& m).toInt = (x.toBitVec &&& m.toBitVec).toInt := rfl
  have h2 : (x.toBitVec &&& m.toBitVec).toNat = x.toBitVec.toNat % 2 ^ k := by rw [BitVec.toNat_and, hm, Nat.and_two_pow_sub_one_eq_mod]
  have h3 : (2 ^ k : Nat) ≤ 2 ^ 30 := Nat.pow_le_pow_right (by decide) (by omega)
  have h4 : x.toBitVec.toNat % 2 ^ k < 2 ^ k := Nat.mod_lt _ (Nat.two_pow_pos k)
  have h5 : (2 ^ k : Nat) ∣ 4294967296 := ⟨2 ^ (32 - k), by rw [← Nat.pow_add]; have : k + (32 - k) = 32 := by omega
                                                            rw [this]⟩
  rw [h1, BitVec.toInt_eq_toNat_of_lt (by rw [h2]; omega), h2, Int.natCast_emod, toNat_toInt]
  exact Int.emod_emod_of_dvd _ (Int.natCast_dvd_natCast.mpr h5)
theorem sar_toInt (x y : Int32) (k : Nat) (hy : y.toBitVec.smod 32#32 = BitVec.ofNat 32 k) (hk : k < 32) : (x >>> y).toInt = x.toInt / ((2 ^ k : Nat) : Int) := by
  have h1 : (x >>> y).toInt = (x.toBitVec.sshiftRight' (y.toBitVec.smod 32#32)).toInt := rfl
  rw [h1, hy, BitVec.sshiftRight_eq', BitVec.toInt_sshiftRight, BitVec.toNat_ofNat, Nat.mod_eq_of_lt (by omega), Int.shiftRight_eq_div_pow]
  rfl
theorem ushr_pos (x y : Int32) (k : Nat) (hy : (y &&& 31).toBitVec.toNat = k) (hx : ¬ x < 0) : (XT.ushr x y).toInt = x.toInt / ((2 ^ k : Nat) : Int) := by
  have hx' : 0 ≤ x.toInt := by rw [lt_i] at hx; have z : (0 : Int32).toInt = 0 := rfl; omega
  have h0 : (x.toBitVec.toNat : Int) = x.toInt := by rw [toNat_toInt]; have := Int32.toInt_lt x; omega
  have hy' : k < 32 := by
    rw [← hy]
    have : (y &&& 31).toBitVec.toNat = y.toBitVec.toNat % 2 ^ 5 := by
      show (y.toBitVec &&& 31#32).toNat = _
      rw [BitVec.toNat_and]; exact Nat.and_two_pow_sub_one_eq_mod _ 5
    omega
  have h1 : (XT.ushr x y).toBitVec = x.toBitVec >>> k := by
    show x.toBitVec >>> ((y &&& 31).toBitVec % 32#32) = _
    rw [BitVec.ushiftRight_eq', BitVec.toNat_umod, hy]
    show x.toBitVec >>> (k % 32) = _
    rw [Nat.mod_eq_of_lt hy']
  have h2 : (x.toBitVec >>> k).toNat = x.toBitVec.toNat / 2 ^ k := by rw [BitVec.toNat_ushiftRight, Nat.shiftRight_eq_div_pow]
  have h3 : (XT.ushr x y).toInt = (x.toBitVec >>> k).toInt := by rw [← h1]; rfl
  have h4 : x.toBitVec.toNat / 2 ^ k ≤ x.toBitVec.toNat := Nat.div_le_self _ _
  rw [h3, BitVec.toInt_eq_toNat_of_lt (by rw [h2]; have := Int32.toInt_lt x; omega), h2, Int.natCast_ediv, h0]
end Jvm.Own
namespace Jvm.Pilot.@@N@@
open Jvm Jvm.ClassFile Sem Op Lib Jvm.Free Jvm.Stand Jvm.LawKit Jvm.RoadKit Bundle Jvm.Own Jvm.Pilot.@@N@@.Jvm.D
def OK (Z : State) (a0 : Array Value) : Prop := ∀ d ∈ tables_1, d.before a0 Z = true
theorem OK.w {Z : State} {a0 : Array Value} (H : OK Z a0) (i : Nat) {d : Jvm.Cond} (h : tables_1[i]? = some d) : d.before a0 Z = true := H _ (List.mem_of_getElem? h)
abbrev cdC : CD := ("DominantShare", [(0, "userCount", "I"), (1, "freeCount", "I"), (2, "reserved", "I")], [(0, "seqCounter")], [(0, "capRes", "[I", .int, 3), (1, "usedRes", "[I", .int, 3), (2, "staged", "[I", .int, 3), (3, "userWeight", "[I", .int, 8), (4, "userCap", "[I", .int, 8), (5, "running", "[I", .int, 8), (6, "pendingCount", "[I", .int, 8), (7, "headSlot", "[I", .int, 8), (8, "domRes", "[I", .int, 8), (9, "alloc", "[I", .int, 24), (10, "slotState", "[I", .int, 32), (11, "slotUser", "[I", .int, 32), (12, "slotGang", "[I", .int, 32), (13, "slotDemand", "[I", .int, 96), (14, "slotSeq", "[J", .long, 32)])
theorem okcC : okC cdC := okC.of (by decide +kernel)
theorem mI_userCount : (0, "userCount", "I") ∈ cdC.2.1 := List.mem_of_getElem? (i := 0) rfl
theorem mI_freeCount : (1, "freeCount", "I") ∈ cdC.2.1 := List.mem_of_getElem? (i := 1) rfl
theorem mI_reserved : (2, "reserved", "I") ∈ cdC.2.1 := List.mem_of_getElem? (i := 2) rfl
theorem mJ_seqCounter : (0, "seqCounter") ∈ cdC.2.2.1 := List.mem_of_getElem? (i := 0) rfl
theorem mA_capRes : (0, "capRes", "[I", FieldType.int, (3 : Int32)) ∈ cdC.2.2.2 := List.mem_of_getElem? (i := 0) rfl
theorem mA_usedRes : (1, "usedRes", "[I", FieldType.int, (3 : Int32)) ∈ cdC.2.2.2 := List.mem_of_getElem? (i := 1) rfl
theorem mA_staged : (2, "staged", "[I", FieldType.int, (3 : Int32)) ∈ cdC.2.2.2 := List.mem_of_getElem? (i := 2) rfl
theorem mA_userWeight : (3, "userWeight", "[I", FieldType.int, (8 : Int32)) ∈ cdC.2.2.2 := List.mem_of_getElem? (i := 3) rfl
theorem mA_userCap : (4, "userCap", "[I", FieldType.int, (8 : Int32)) ∈ cdC.2.2.2 := List.mem_of_getElem? (i := 4) rfl
theorem mA_running : (5, "running", "[I", FieldType.int, (8 : Int32)) ∈ cdC.2.2.2 := List.mem_of_getElem? (i := 5) rfl
theorem mA_pendingCount : (6, "pendingCount", "[I", FieldType.int, (8 : Int32)) ∈ cdC.2.2.2 := List.mem_of_getElem? (i := 6) rfl
theorem mA_headSlot : (7, "headSlot", "[I", FieldType.int, (8 : Int32)) ∈ cdC.2.2.2 := List.mem_of_getElem? (i := 7) rfl
theorem mA_domRes : (8, "domRes", "[I", FieldType.int, (8 : Int32)) ∈ cdC.2.2.2 := List.mem_of_getElem? (i := 8) rfl
theorem mA_alloc : (9, "alloc", "[I", FieldType.int, (24 : Int32)) ∈ cdC.2.2.2 := List.mem_of_getElem? (i := 9) rfl
theorem mA_slotState : (10, "slotState", "[I", FieldType.int, (32 : Int32)) ∈ cdC.2.2.2 := List.mem_of_getElem? (i := 10) rfl
theorem mA_slotUser : (11, "slotUser", "[I", FieldType.int, (32 : Int32)) ∈ cdC.2.2.2 := List.mem_of_getElem? (i := 11) rfl
theorem mA_slotGang : (12, "slotGang", "[I", FieldType.int, (32 : Int32)) ∈ cdC.2.2.2 := List.mem_of_getElem? (i := 12) rfl
theorem mA_slotDemand : (13, "slotDemand", "[I", FieldType.int, (96 : Int32)) ∈ cdC.2.2.2 := List.mem_of_getElem? (i := 13) rfl
theorem mA_slotSeq : (14, "slotSeq", "[J", FieldType.long, (32 : Int32)) ∈ cdC.2.2.2 := List.mem_of_getElem? (i := 14) rfl
theorem wf_capRes {Z : State} {a0 : Array Value} (H : OK Z a0) : (Cond.fieldLink "DominantShare" 7 "DominantShare" "capRes" "[I").before a0 Z = true := H.w 10 rfl
theorem wf_usedRes {Z : State} {a0 : Array Value} (H : OK Z a0) : (Cond.fieldLink "DominantShare" 13 "DominantShare" "usedRes" "[I").before a0 Z = true := H.w 12 rfl
theorem wf_staged {Z : State} {a0 : Array Value} (H : OK Z a0) : (Cond.fieldLink "DominantShare" 16 "DominantShare" "staged" "[I").before a0 Z = true := H.w 14 rfl
theorem wf_userWeight {Z : State} {a0 : Array Value} (H : OK Z a0) : (Cond.fieldLink "DominantShare" 19 "DominantShare" "userWeight" "[I").before a0 Z = true := H.w 16 rfl
theorem wf_userCap {Z : State} {a0 : Array Value} (H : OK Z a0) : (Cond.fieldLink "DominantShare" 22 "DominantShare" "userCap" "[I").before a0 Z = true := H.w 18 rfl
theorem wf_running {Z : State} {a0 : Array Value} (H : OK Z a0) : (Cond.fieldLink "DominantShare" 25 "DominantShare" "running" "[I").before a0 Z = true := H.w 20 rfl
theorem wf_pendingCount {Z : State} {a0 : Array Value} (H : OK Z a0) : (Cond.fieldLink "DominantShare" 28 "DominantShare" "pendingCount" "[I").before a0 Z = true := H.w 22 rfl
theorem wf_headSlot {Z : State} {a0 : Array Value} (H : OK Z a0) : (Cond.fieldLink "DominantShare" 31 "DominantShare" "headSlot" "[I").before a0 Z = true := H.w 24 rfl
theorem wf_domRes {Z : State} {a0 : Array Value} (H : OK Z a0) : (Cond.fieldLink "DominantShare" 34 "DominantShare" "domRes" "[I").before a0 Z = true := H.w 26 rfl
theorem wf_alloc {Z : State} {a0 : Array Value} (H : OK Z a0) : (Cond.fieldLink "DominantShare" 37 "DominantShare" "alloc" "[I").before a0 Z = true := H.w 28 rfl
theorem wf_slotState {Z : State} {a0 : Array Value} (H : OK Z a0) : (Cond.fieldLink "DominantShare" 40 "DominantShare" "slotState" "[I").before a0 Z = true := H.w 30 rfl
theorem wf_slotUser {Z : State} {a0 : Array Value} (H : OK Z a0) : (Cond.fieldLink "DominantShare" 43 "DominantShare" "slotUser" "[I").before a0 Z = true := H.w 32 rfl
theorem wf_slotGang {Z : State} {a0 : Array Value} (H : OK Z a0) : (Cond.fieldLink "DominantShare" 46 "DominantShare" "slotGang" "[I").before a0 Z = true := H.w 34 rfl
theorem wf_slotDemand {Z : State} {a0 : Array Value} (H : OK Z a0) : (Cond.fieldLink "DominantShare" 49 "DominantShare" "slotDemand" "[I").before a0 Z = true := H.w 36 rfl
theorem wf_slotSeq {Z : State} {a0 : Array Value} (H : OK Z a0) : (Cond.fieldLink "DominantShare" 52 "DominantShare" "slotSeq" "[J").before a0 Z = true := H.w 39 rfl
theorem wf_userCount {Z : State} {a0 : Array Value} (H : OK Z a0) : (Cond.fieldLink "DominantShare" 61 "DominantShare" "userCount" "I").before a0 Z = true := H.w 46 rfl
theorem wf_freeCount {Z : State} {a0 : Array Value} (H : OK Z a0) : (Cond.fieldLink "DominantShare" 72 "DominantShare" "freeCount" "I").before a0 Z = true := H.w 60 rfl
theorem wf_seqCounter {Z : State} {a0 : Array Value} (H : OK Z a0) : (Cond.fieldLink "DominantShare" 75 "DominantShare" "seqCounter" "J").before a0 Z = true := H.w 62 rfl
theorem wf_reserved {Z : State} {a0 : Array Value} (H : OK Z a0) : (Cond.fieldLink "DominantShare" 79 "DominantShare" "reserved" "I").before a0 Z = true := H.w 64 rfl
theorem wy_capRes {Z : State} {a0 : Array Value} (H : OK Z a0) : (Cond.laysFinal "DominantShare" "DominantShare" "capRes" "[I").before a0 Z = true := H.w 11 rfl
theorem wy_usedRes {Z : State} {a0 : Array Value} (H : OK Z a0) : (Cond.laysFinal "DominantShare" "DominantShare" "usedRes" "[I").before a0 Z = true := H.w 13 rfl
theorem wy_staged {Z : State} {a0 : Array Value} (H : OK Z a0) : (Cond.laysFinal "DominantShare" "DominantShare" "staged" "[I").before a0 Z = true := H.w 15 rfl
theorem wy_userWeight {Z : State} {a0 : Array Value} (H : OK Z a0) : (Cond.laysFinal "DominantShare" "DominantShare" "userWeight" "[I").before a0 Z = true := H.w 17 rfl
theorem wy_userCap {Z : State} {a0 : Array Value} (H : OK Z a0) : (Cond.laysFinal "DominantShare" "DominantShare" "userCap" "[I").before a0 Z = true := H.w 19 rfl
theorem wy_running {Z : State} {a0 : Array Value} (H : OK Z a0) : (Cond.laysFinal "DominantShare" "DominantShare" "running" "[I").before a0 Z = true := H.w 21 rfl
theorem wy_pendingCount {Z : State} {a0 : Array Value} (H : OK Z a0) : (Cond.laysFinal "DominantShare" "DominantShare" "pendingCount" "[I").before a0 Z = true := H.w 23 rfl
theorem wy_headSlot {Z : State} {a0 : Array Value} (H : OK Z a0) : (Cond.laysFinal "DominantShare" "DominantShare" "headSlot" "[I").before a0 Z = true := H.w 25 rfl
theorem wy_domRes {Z : State} {a0 : Array Value} (H : OK Z a0) : (Cond.laysFinal "DominantShare" "DominantShare" "domRes" "[I").before a0 Z = true := H.w 27 rfl
theorem wy_alloc {Z : State} {a0 : Array Value} (H : OK Z a0) : (Cond.laysFinal "DominantShare" "DominantShare" "alloc" "[I").before a0 Z = true := H.w 29 rfl
theorem wy_slotState {Z : State} {a0 : Array Value} (H : OK Z a0) : (Cond.laysFinal "DominantShare" "DominantShare" "slotState" "[I").before a0 Z = true := H.w 31 rfl
theorem wy_slotUser {Z : State} {a0 : Array Value} (H : OK Z a0) : (Cond.laysFinal "DominantShare" "DominantShare" "slotUser" "[I").before a0 Z = true := H.w 33 rfl
theorem wy_slotGang {Z : State} {a0 : Array Value} (H : OK Z a0) : (Cond.laysFinal "DominantShare" "DominantShare" "slotGang" "[I").before a0 Z = true := H.w 35 rfl
theorem wy_slotDemand {Z : State} {a0 : Array Value} (H : OK Z a0) : (Cond.laysFinal "DominantShare" "DominantShare" "slotDemand" "[I").before a0 Z = true := H.w 37 rfl
theorem wy_slotSeq {Z : State} {a0 : Array Value} (H : OK Z a0) : (Cond.laysFinal "DominantShare" "DominantShare" "slotSeq" "[J").before a0 Z = true := H.w 40 rfl
theorem wy_userCount {Z : State} {a0 : Array Value} (H : OK Z a0) : (Cond.lays "DominantShare" "DominantShare" "userCount" "I").before a0 Z = true := H.w 47 rfl
theorem wy_freeCount {Z : State} {a0 : Array Value} (H : OK Z a0) : (Cond.lays "DominantShare" "DominantShare" "freeCount" "I").before a0 Z = true := H.w 61 rfl
theorem wy_seqCounter {Z : State} {a0 : Array Value} (H : OK Z a0) : (Cond.lays "DominantShare" "DominantShare" "seqCounter" "J").before a0 Z = true := H.w 63 rfl
theorem wy_reserved {Z : State} {a0 : Array Value} (H : OK Z a0) : (Cond.lays "DominantShare" "DominantShare" "reserved" "I").before a0 Z = true := H.w 65 rfl
theorem wa_int {Z : State} {a0 : Array Value} (H : OK Z a0) : (Cond.arrayClass (newarray.typeOf .int)).before a0 Z = true := H.w 9 rfl
theorem wa_long {Z : State} {a0 : Array Value} (H : OK Z a0) : (Cond.arrayClass (newarray.typeOf .long)).before a0 Z = true := H.w 38 rfl
theorem wz_C {Z : State} {a0 : Array Value} (H : OK Z a0) : (Cond.initialized "DominantShare").before a0 Z = true := H.w 2 rfl
theorem coC {Z : State} {a0 : Array Value} (H : OK Z a0) : CO Z a0 cdC := by
  refine ⟨⟨19, H.w 1 rfl⟩, ?_, ?_, ?_, okcC⟩
  · intro t m; simp only [cdC, List.mem_cons, List.not_mem_nil, or_false] at m
    rcases m with rfl | rfl | rfl
    · exact Or.inl (wy_userCount H)
    · exact Or.inl (wy_freeCount H)
    · exact Or.inl (wy_reserved H)
  · intro t m; simp only [cdC, List.mem_cons, List.not_mem_nil, or_false] at m
    rcases m with rfl
    · exact Or.inl (wy_seqCounter H)
  · intro t m; simp only [cdC, List.mem_cons, List.not_mem_nil, or_false] at m
    rcases m with rfl | rfl | rfl | rfl | rfl | rfl | rfl | rfl | rfl | rfl | rfl | rfl | rfl | rfl | rfl
    · exact Or.inr (wy_capRes H)
    · exact Or.inr (wy_usedRes H)
    · exact Or.inr (wy_staged H)
    · exact Or.inr (wy_userWeight H)
    · exact Or.inr (wy_userCap H)
    · exact Or.inr (wy_running H)
    · exact Or.inr (wy_pendingCount H)
    · exact Or.inr (wy_headSlot H)
    · exact Or.inr (wy_domRes H)
    · exact Or.inr (wy_alloc H)
    · exact Or.inr (wy_slotState H)
    · exact Or.inr (wy_slotUser H)
    · exact Or.inr (wy_slotGang H)
    · exact Or.inr (wy_slotDemand H)
    · exact Or.inr (wy_slotSeq H)
theorem mrC {Z : State} (en : Nat × Nat) (h : Heap) : (MoC Z cdC).frm en h h := frmC.refl _ _ _
theorem mtC {Z : State} (en : Nat × Nat) (h1 h2 h3 : Heap) (a : (MoC Z cdC).frm en h1 h2) (b : (MoC Z cdC).frm en h2 h3) : (MoC Z cdC).frm en h1 h3 := frmC.trans a b
theorem mrL {Z : State} (en : Nat × Nat) (h : Heap) : (MoL Z cdC "DominantShareL3" false).frm en h h := trivial
theorem mtL {Z : State} (en : Nat × Nat) (h1 h2 h3 : Heap) (a : (MoL Z cdC "DominantShareL3" false).frm en h1 h2) (b : (MoL Z cdC "DominantShareL3" false).frm en h2 h3) : (MoL Z cdC "DominantShareL3" false).frm en h1 h3 := trivial
theorem pn_DominantShare : plainName "DominantShare" = true := by first | (simp [plainName, overriddenIn]; done) | decide +kernel
theorem pn_DominantShareL3 : plainName "DominantShareL3" = true := by first | (simp [plainName, overriddenIn]; done) | decide +kernel
theorem pd___I : ∀ sig, parseMethodDescriptor "()I" = some sig → 0 = sig.parameters.length := fun sig h => by
  have q : parseMethodDescriptor "()I" = some ⟨[], some .int⟩ := by decide +kernel
  cases q.symm.trans h; rfl
theorem pd___V : ∀ sig, parseMethodDescriptor "()V" = some sig → 0 = sig.parameters.length := fun sig h => by
  have q : parseMethodDescriptor "()V" = some ⟨[], none⟩ := by decide +kernel
  cases q.symm.trans h; rfl
theorem pd___Z : ∀ sig, parseMethodDescriptor "()Z" = some sig → 0 = sig.parameters.length := fun sig h => by
  have q : parseMethodDescriptor "()Z" = some ⟨[], some .boolean⟩ := by decide +kernel
  cases q.symm.trans h; rfl
theorem pd__I_I : ∀ sig, parseMethodDescriptor "(I)I" = some sig → 1 = sig.parameters.length := fun sig h => by
  have q : parseMethodDescriptor "(I)I" = some ⟨[.int], some .int⟩ := by decide +kernel
  cases q.symm.trans h; rfl
theorem pd__I_V : ∀ sig, parseMethodDescriptor "(I)V" = some sig → 1 = sig.parameters.length := fun sig h => by
  have q : parseMethodDescriptor "(I)V" = some ⟨[.int], none⟩ := by decide +kernel
  cases q.symm.trans h; rfl
theorem pd__I_Z : ∀ sig, parseMethodDescriptor "(I)Z" = some sig → 1 = sig.parameters.length := fun sig h => by
  have q : parseMethodDescriptor "(I)Z" = some ⟨[.int], some .boolean⟩ := by decide +kernel
  cases q.symm.trans h; rfl
theorem pd__II_I : ∀ sig, parseMethodDescriptor "(II)I" = some sig → 2 = sig.parameters.length := fun sig h => by
  have q : parseMethodDescriptor "(II)I" = some ⟨[.int, .int], some .int⟩ := by decide +kernel
  cases q.symm.trans h; rfl
theorem pd__II_V : ∀ sig, parseMethodDescriptor "(II)V" = some sig → 2 = sig.parameters.length := fun sig h => by
  have q : parseMethodDescriptor "(II)V" = some ⟨[.int, .int], none⟩ := by decide +kernel
  cases q.symm.trans h; rfl
theorem pd__II_Z : ∀ sig, parseMethodDescriptor "(II)Z" = some sig → 2 = sig.parameters.length := fun sig h => by
  have q : parseMethodDescriptor "(II)Z" = some ⟨[.int, .int], some .boolean⟩ := by decide +kernel
  cases q.symm.trans h; rfl
theorem pd__III_I : ∀ sig, parseMethodDescriptor "(III)I" = some sig → 3 = sig.parameters.length := fun sig h => by
  have q : parseMethodDescriptor "(III)I" = some ⟨[.int, .int, .int], some .int⟩ := by decide +kernel
  cases q.symm.trans h; rfl
theorem pd__III_V : ∀ sig, parseMethodDescriptor "(III)V" = some sig → 3 = sig.parameters.length := fun sig h => by
  have q : parseMethodDescriptor "(III)V" = some ⟨[.int, .int, .int], none⟩ := by decide +kernel
  cases q.symm.trans h; rfl
theorem pd__III_Z : ∀ sig, parseMethodDescriptor "(III)Z" = some sig → 3 = sig.parameters.length := fun sig h => by
  have q : parseMethodDescriptor "(III)Z" = some ⟨[.int, .int, .int], some .boolean⟩ := by decide +kernel
  cases q.symm.trans h; rfl
theorem pd__IIII_V : ∀ sig, parseMethodDescriptor "(IIII)V" = some sig → 4 = sig.parameters.length := fun sig h => by
  have q : parseMethodDescriptor "(IIII)V" = some ⟨[.int, .int, .int, .int], none⟩ := by decide +kernel
  cases q.symm.trans h; rfl
theorem pd__IIIIII_Z : ∀ sig, parseMethodDescriptor "(IIIIII)Z" = some sig → 6 = sig.parameters.length := fun sig h => by
  have q : parseMethodDescriptor "(IIIIII)Z" = some ⟨[.int, .int, .int, .int, .int, .int], some .boolean⟩ := by decide +kernel
  cases q.symm.trans h; rfl
theorem pd__JJ_I : ∀ sig, parseMethodDescriptor "(JJ)I" = some sig → 2 = sig.parameters.length := fun sig h => by
  have q : parseMethodDescriptor "(JJ)I" = some ⟨[.long, .long], some .int⟩ := by decide +kernel
  cases q.symm.trans h; rfl
theorem pd__JJJJ_J : ∀ sig, parseMethodDescriptor "(JJJJ)J" = some sig → 4 = sig.parameters.length := fun sig h => by
  have q : parseMethodDescriptor "(JJJJ)J" = some ⟨[.long, .long, .long, .long], some .long⟩ := by decide +kernel
  cases q.symm.trans h; rfl
abbrev md_init : MD := (⟨"DominantShare", "<init>", "(IIII)V"⟩, prog_1_method_1_code, 6, none, { frames := 2, cells := 15, slots := 305, locals := 29 }, 15)
theorem al_init (x0 : Int32) (x1 : Int32) (x2 : Int32) (x3 : Int32) : (argsToLocals [.ref 0, .int x0, .int x1, .int x2, .int x3].toArray (mxOf md_init)).toList = [.val (.ref 0), .val (.int x0), .val (.int x1), .val (.int x2), .val (.int x3), .unset] := (Jvm.Sym.argsToLocals_toList _ _).trans rfl
theorem cv_init {Z : State} {a0 : Array Value} (H : OK Z a0) : CalI Z a0 md_init 4 := ⟨pn_DominantShare, by decide, pd__IIII_V, H.w 4 rfl, H.w 5 rfl, H.w 2 rfl, rfl, rfl⟩
theorem o_init_0 : InsA md_init 0 (.aload_n 0) 1 1 := ⟨by decide +kernel, rfl⟩
theorem o_init_1 : InsA md_init 1 (.invokespecial 1) 3 4 := ⟨by decide +kernel, rfl⟩
theorem o_init_4 : InsA md_init 4 (.aload_n 0) 1 5 := ⟨by decide +kernel, rfl⟩
theorem o_init_5 : InsA md_init 5 (.iconst 3) 1 6 := ⟨by decide +kernel, rfl⟩
theorem o_init_6 : InsA md_init 6 (.newarray .int) 2 8 := ⟨by decide +kernel, rfl⟩
theorem o_init_8 : InsA md_init 8 (.putfield 7) 3 11 := ⟨by decide +kernel, rfl⟩
theorem o_init_11 : InsA md_init 11 (.aload_n 0) 1 12 := ⟨by decide +kernel, rfl⟩
theorem o_init_12 : InsA md_init 12 (.iconst 3) 1 13 := ⟨by decide +kernel, rfl⟩
theorem o_init_13 : InsA md_init 13 (.newarray .int) 2 15 := ⟨by decide +kernel, rfl⟩
theorem o_init_15 : InsA md_init 15 (.putfield 13) 3 18 := ⟨by decide +kernel, rfl⟩
theorem o_init_18 : InsA md_init 18 (.aload_n 0) 1 19 := ⟨by decide +kernel, rfl⟩
theorem o_init_19 : InsA md_init 19 (.iconst 3) 1 20 := ⟨by decide +kernel, rfl⟩
theorem o_init_20 : InsA md_init 20 (.newarray .int) 2 22 := ⟨by decide +kernel, rfl⟩
theorem o_init_22 : InsA md_init 22 (.putfield 16) 3 25 := ⟨by decide +kernel, rfl⟩
theorem o_init_25 : InsA md_init 25 (.aload_n 0) 1 26 := ⟨by decide +kernel, rfl⟩
theorem o_init_26 : InsA md_init 26 (.bipush 8) 2 28 := ⟨by decide +kernel, rfl⟩
theorem o_init_28 : InsA md_init 28 (.newarray .int) 2 30 := ⟨by decide +kernel, rfl⟩
theorem o_init_30 : InsA md_init 30 (.putfield 19) 3 33 := ⟨by decide +kernel, rfl⟩
theorem o_init_33 : InsA md_init 33 (.aload_n 0) 1 34 := ⟨by decide +kernel, rfl⟩
theorem o_init_34 : InsA md_init 34 (.bipush 8) 2 36 := ⟨by decide +kernel, rfl⟩
theorem o_init_36 : InsA md_init 36 (.newarray .int) 2 38 := ⟨by decide +kernel, rfl⟩
theorem o_init_38 : InsA md_init 38 (.putfield 22) 3 41 := ⟨by decide +kernel, rfl⟩
theorem o_init_41 : InsA md_init 41 (.aload_n 0) 1 42 := ⟨by decide +kernel, rfl⟩
theorem o_init_42 : InsA md_init 42 (.bipush 8) 2 44 := ⟨by decide +kernel, rfl⟩
theorem o_init_44 : InsA md_init 44 (.newarray .int) 2 46 := ⟨by decide +kernel, rfl⟩
theorem o_init_46 : InsA md_init 46 (.putfield 25) 3 49 := ⟨by decide +kernel, rfl⟩
theorem o_init_49 : InsA md_init 49 (.aload_n 0) 1 50 := ⟨by decide +kernel, rfl⟩
theorem o_init_50 : InsA md_init 50 (.bipush 8) 2 52 := ⟨by decide +kernel, rfl⟩
theorem o_init_52 : InsA md_init 52 (.newarray .int) 2 54 := ⟨by decide +kernel, rfl⟩
theorem o_init_54 : InsA md_init 54 (.putfield 28) 3 57 := ⟨by decide +kernel, rfl⟩
theorem o_init_57 : InsA md_init 57 (.aload_n 0) 1 58 := ⟨by decide +kernel, rfl⟩
theorem o_init_58 : InsA md_init 58 (.bipush 8) 2 60 := ⟨by decide +kernel, rfl⟩
theorem o_init_60 : InsA md_init 60 (.newarray .int) 2 62 := ⟨by decide +kernel, rfl⟩
theorem o_init_62 : InsA md_init 62 (.putfield 31) 3 65 := ⟨by decide +kernel, rfl⟩
theorem o_init_65 : InsA md_init 65 (.aload_n 0) 1 66 := ⟨by decide +kernel, rfl⟩
theorem o_init_66 : InsA md_init 66 (.bipush 8) 2 68 := ⟨by decide +kernel, rfl⟩
theorem o_init_68 : InsA md_init 68 (.newarray .int) 2 70 := ⟨by decide +kernel, rfl⟩
theorem o_init_70 : InsA md_init 70 (.putfield 34) 3 73 := ⟨by decide +kernel, rfl⟩
theorem o_init_73 : InsA md_init 73 (.aload_n 0) 1 74 := ⟨by decide +kernel, rfl⟩
theorem o_init_74 : InsA md_init 74 (.bipush 24) 2 76 := ⟨by decide +kernel, rfl⟩
theorem o_init_76 : InsA md_init 76 (.newarray .int) 2 78 := ⟨by decide +kernel, rfl⟩
theorem o_init_78 : InsA md_init 78 (.putfield 37) 3 81 := ⟨by decide +kernel, rfl⟩
theorem o_init_81 : InsA md_init 81 (.aload_n 0) 1 82 := ⟨by decide +kernel, rfl⟩
theorem o_init_82 : InsA md_init 82 (.bipush 32) 2 84 := ⟨by decide +kernel, rfl⟩
theorem o_init_84 : InsA md_init 84 (.newarray .int) 2 86 := ⟨by decide +kernel, rfl⟩
theorem o_init_86 : InsA md_init 86 (.putfield 40) 3 89 := ⟨by decide +kernel, rfl⟩
theorem o_init_89 : InsA md_init 89 (.aload_n 0) 1 90 := ⟨by decide +kernel, rfl⟩
theorem o_init_90 : InsA md_init 90 (.bipush 32) 2 92 := ⟨by decide +kernel, rfl⟩
theorem o_init_92 : InsA md_init 92 (.newarray .int) 2 94 := ⟨by decide +kernel, rfl⟩
theorem o_init_94 : InsA md_init 94 (.putfield 43) 3 97 := ⟨by decide +kernel, rfl⟩
theorem o_init_97 : InsA md_init 97 (.aload_n 0) 1 98 := ⟨by decide +kernel, rfl⟩
theorem o_init_98 : InsA md_init 98 (.bipush 32) 2 100 := ⟨by decide +kernel, rfl⟩
theorem o_init_100 : InsA md_init 100 (.newarray .int) 2 102 := ⟨by decide +kernel, rfl⟩
theorem o_init_102 : InsA md_init 102 (.putfield 46) 3 105 := ⟨by decide +kernel, rfl⟩
theorem o_init_105 : InsA md_init 105 (.aload_n 0) 1 106 := ⟨by decide +kernel, rfl⟩
theorem o_init_106 : InsA md_init 106 (.bipush 96) 2 108 := ⟨by decide +kernel, rfl⟩
theorem o_init_108 : InsA md_init 108 (.newarray .int) 2 110 := ⟨by decide +kernel, rfl⟩
theorem o_init_110 : InsA md_init 110 (.putfield 49) 3 113 := ⟨by decide +kernel, rfl⟩
theorem o_init_113 : InsA md_init 113 (.aload_n 0) 1 114 := ⟨by decide +kernel, rfl⟩
theorem o_init_114 : InsA md_init 114 (.bipush 32) 2 116 := ⟨by decide +kernel, rfl⟩
theorem o_init_116 : InsA md_init 116 (.newarray .long) 2 118 := ⟨by decide +kernel, rfl⟩
theorem o_init_118 : InsA md_init 118 (.putfield 52) 3 121 := ⟨by decide +kernel, rfl⟩
theorem o_init_121 : InsA md_init 121 (.aload_n 0) 1 122 := ⟨by decide +kernel, rfl⟩
theorem o_init_122 : InsA md_init 122 (.getfield 7) 3 125 := ⟨by decide +kernel, rfl⟩
theorem o_init_125 : InsA md_init 125 (.iconst 0) 1 126 := ⟨by decide +kernel, rfl⟩
theorem o_init_126 : InsA md_init 126 (.aload_n 0) 1 127 := ⟨by decide +kernel, rfl⟩
theorem o_init_127 : InsA md_init 127 (.iload_n 1) 1 128 := ⟨by decide +kernel, rfl⟩
theorem o_init_128 : InsA md_init 128 (.iconst 1) 1 129 := ⟨by decide +kernel, rfl⟩
theorem o_init_129 : InsA md_init 129 (.ldc 56) 2 131 := ⟨by decide +kernel, rfl⟩
theorem o_init_131 : InsA md_init 131 (.invokevirtual 57) 3 134 := ⟨by decide +kernel, rfl⟩
theorem o_init_134 : InsA md_init 134 (.iastore) 1 135 := ⟨by decide +kernel, rfl⟩
theorem o_init_135 : InsA md_init 135 (.aload_n 0) 1 136 := ⟨by decide +kernel, rfl⟩
theorem o_init_136 : InsA md_init 136 (.getfield 7) 3 139 := ⟨by decide +kernel, rfl⟩
theorem o_init_139 : InsA md_init 139 (.iconst 1) 1 140 := ⟨by decide +kernel, rfl⟩
theorem o_init_140 : InsA md_init 140 (.aload_n 0) 1 141 := ⟨by decide +kernel, rfl⟩
theorem o_init_141 : InsA md_init 141 (.iload_n 2) 1 142 := ⟨by decide +kernel, rfl⟩
theorem o_init_142 : InsA md_init 142 (.iconst 1) 1 143 := ⟨by decide +kernel, rfl⟩
theorem o_init_143 : InsA md_init 143 (.ldc 56) 2 145 := ⟨by decide +kernel, rfl⟩
theorem o_init_145 : InsA md_init 145 (.invokevirtual 57) 3 148 := ⟨by decide +kernel, rfl⟩
theorem o_init_148 : InsA md_init 148 (.iastore) 1 149 := ⟨by decide +kernel, rfl⟩
theorem o_init_149 : InsA md_init 149 (.aload_n 0) 1 150 := ⟨by decide +kernel, rfl⟩
theorem o_init_150 : InsA md_init 150 (.getfield 7) 3 153 := ⟨by decide +kernel, rfl⟩
theorem o_init_153 : InsA md_init 153 (.iconst 2) 1 154 := ⟨by decide +kernel, rfl⟩
theorem o_init_154 : InsA md_init 154 (.aload_n 0) 1 155 := ⟨by decide +kernel, rfl⟩
theorem o_init_155 : InsA md_init 155 (.iload_n 3) 1 156 := ⟨by decide +kernel, rfl⟩
theorem o_init_156 : InsA md_init 156 (.iconst 1) 1 157 := ⟨by decide +kernel, rfl⟩
theorem o_init_157 : InsA md_init 157 (.ldc 56) 2 159 := ⟨by decide +kernel, rfl⟩
theorem o_init_159 : InsA md_init 159 (.invokevirtual 57) 3 162 := ⟨by decide +kernel, rfl⟩
theorem o_init_162 : InsA md_init 162 (.iastore) 1 163 := ⟨by decide +kernel, rfl⟩
theorem o_init_163 : InsA md_init 163 (.aload_n 0) 1 164 := ⟨by decide +kernel, rfl⟩
theorem o_init_164 : InsA md_init 164 (.aload_n 0) 1 165 := ⟨by decide +kernel, rfl⟩
theorem o_init_165 : InsA md_init 165 (.iload 4) 2 167 := ⟨by decide +kernel, rfl⟩
theorem o_init_167 : InsA md_init 167 (.iconst 2) 1 168 := ⟨by decide +kernel, rfl⟩
theorem o_init_168 : InsA md_init 168 (.bipush 8) 2 170 := ⟨by decide +kernel, rfl⟩
theorem o_init_170 : InsA md_init 170 (.invokevirtual 57) 3 173 := ⟨by decide +kernel, rfl⟩
theorem o_init_173 : InsA md_init 173 (.putfield 61) 3 176 := ⟨by decide +kernel, rfl⟩
theorem o_init_176 : InsA md_init 176 (.iconst 0) 1 177 := ⟨by decide +kernel, rfl⟩
theorem o_init_177 : InsA md_init 177 (.istore 5) 2 179 := ⟨by decide +kernel, rfl⟩
theorem o_init_179 : InsA md_init 179 (.iload 5) 2 181 := ⟨by decide +kernel, rfl⟩
theorem o_init_181 : InsA md_init 181 (.bipush 8) 2 183 := ⟨by decide +kernel, rfl⟩
theorem o_init_183 : InsB md_init 183 (.if_icmp .ge 15) 3 186 (15) 198 := ⟨by decide +kernel, rfl, by decide, by decide⟩
theorem o_init_186 : InsA md_init 186 (.aload_n 0) 1 187 := ⟨by decide +kernel, rfl⟩
theorem o_init_187 : InsA md_init 187 (.iload 5) 2 189 := ⟨by decide +kernel, rfl⟩
theorem o_init_189 : InsA md_init 189 (.invokevirtual 65) 3 192 := ⟨by decide +kernel, rfl⟩
theorem o_init_192 : InsA md_init 192 (.iinc 5 1) 3 195 := ⟨by decide +kernel, rfl⟩
theorem o_init_195 : InsB md_init 195 (.goto (-16)) 3 198 (-16) 179 := ⟨by decide +kernel, rfl, by decide, by decide⟩
theorem o_init_198 : InsA md_init 198 (.iconst 0) 1 199 := ⟨by decide +kernel, rfl⟩
theorem o_init_199 : InsA md_init 199 (.istore 5) 2 201 := ⟨by decide +kernel, rfl⟩
theorem o_init_201 : InsA md_init 201 (.iload 5) 2 203 := ⟨by decide +kernel, rfl⟩
theorem o_init_203 : InsA md_init 203 (.bipush 32) 2 205 := ⟨by decide +kernel, rfl⟩
theorem o_init_205 : InsB md_init 205 (.if_icmp .ge 15) 3 208 (15) 220 := ⟨by decide +kernel, rfl, by decide, by decide⟩
theorem o_init_208 : InsA md_init 208 (.aload_n 0) 1 209 := ⟨by decide +kernel, rfl⟩
theorem o_init_209 : InsA md_init 209 (.iload 5) 2 211 := ⟨by decide +kernel, rfl⟩
theorem o_init_211 : InsA md_init 211 (.invokevirtual 69) 3 214 := ⟨by decide +kernel, rfl⟩
theorem o_init_214 : InsA md_init 214 (.iinc 5 1) 3 217 := ⟨by decide +kernel, rfl⟩
theorem o_init_217 : InsB md_init 217 (.goto (-16)) 3 220 (-16) 201 := ⟨by decide +kernel, rfl, by decide, by decide⟩
theorem o_init_220 : InsA md_init 220 (.iconst 0) 1 221 := ⟨by decide +kernel, rfl⟩
theorem o_init_221 : InsA md_init 221 (.istore 5) 2 223 := ⟨by decide +kernel, rfl⟩
theorem o_init_223 : InsA md_init 223 (.iload 5) 2 225 := ⟨by decide +kernel, rfl⟩
theorem o_init_225 : InsA md_init 225 (.iconst 3) 1 226 := ⟨by decide +kernel, rfl⟩
theorem o_init_226 : InsB md_init 226 (.if_icmp .ge 25) 3 229 (25) 251 := ⟨by decide +kernel, rfl, by decide, by decide⟩
theorem o_init_229 : InsA md_init 229 (.aload_n 0) 1 230 := ⟨by decide +kernel, rfl⟩
theorem o_init_230 : InsA md_init 230 (.getfield 13) 3 233 := ⟨by decide +kernel, rfl⟩
theorem o_init_233 : InsA md_init 233 (.iload 5) 2 235 := ⟨by decide +kernel, rfl⟩
theorem o_init_235 : InsA md_init 235 (.iconst 0) 1 236 := ⟨by decide +kernel, rfl⟩
theorem o_init_236 : InsA md_init 236 (.iastore) 1 237 := ⟨by decide +kernel, rfl⟩
theorem o_init_237 : InsA md_init 237 (.aload_n 0) 1 238 := ⟨by decide +kernel, rfl⟩
theorem o_init_238 : InsA md_init 238 (.getfield 16) 3 241 := ⟨by decide +kernel, rfl⟩
theorem o_init_241 : InsA md_init 241 (.iload 5) 2 243 := ⟨by decide +kernel, rfl⟩
theorem o_init_243 : InsA md_init 243 (.iconst 0) 1 244 := ⟨by decide +kernel, rfl⟩
theorem o_init_244 : InsA md_init 244 (.iastore) 1 245 := ⟨by decide +kernel, rfl⟩
theorem o_init_245 : InsA md_init 245 (.iinc 5 1) 3 248 := ⟨by decide +kernel, rfl⟩
theorem o_init_248 : InsB md_init 248 (.goto (-25)) 3 251 (-25) 223 := ⟨by decide +kernel, rfl, by decide, by decide⟩
theorem o_init_251 : InsA md_init 251 (.aload_n 0) 1 252 := ⟨by decide +kernel, rfl⟩
theorem o_init_252 : InsA md_init 252 (.bipush 32) 2 254 := ⟨by decide +kernel, rfl⟩
theorem o_init_254 : InsA md_init 254 (.putfield 72) 3 257 := ⟨by decide +kernel, rfl⟩
theorem o_init_257 : InsA md_init 257 (.aload_n 0) 1 258 := ⟨by decide +kernel, rfl⟩
theorem o_init_258 : InsA md_init 258 (.lconst 0) 1 259 := ⟨by decide +kernel, rfl⟩
theorem o_init_259 : InsA md_init 259 (.putfield 75) 3 262 := ⟨by decide +kernel, rfl⟩
theorem o_init_262 : InsA md_init 262 (.aload_n 0) 1 263 := ⟨by decide +kernel, rfl⟩
theorem o_init_263 : InsA md_init 263 (.iconst (-1)) 1 264 := ⟨by decide +kernel, rfl⟩
theorem o_init_264 : InsA md_init 264 (.putfield 79) 3 267 := ⟨by decide +kernel, rfl⟩
theorem o_init_267 : InsA md_init 267 (.return_) 1 268 := ⟨by decide +kernel, rfl⟩
abbrev md_clampInt : MD := (⟨"DominantShare", "clampInt", "(III)I"⟩, prog_1_method_18_code, 4, some .int, { frames := 0, cells := 0, slots := 0, locals := 0 }, 0)
theorem cv_clampInt {Z : State} {a0 : Array Value} (H : OK Z a0) : CalV Z a0 md_clampInt 3 := ⟨pn_DominantShare, by decide, pd__III_I, H.w 43 rfl, H.w 45 rfl, H.w 2 rfl, Or.inr ⟨H.w 44 rfl, 19, H.w 1 rfl⟩⟩
theorem o_clampInt_0 : InsA md_clampInt 0 (.iload_n 1) 1 1 := ⟨by decide +kernel, rfl⟩
theorem o_clampInt_1 : InsA md_clampInt 1 (.iload_n 2) 1 2 := ⟨by decide +kernel, rfl⟩
theorem o_clampInt_2 : InsB md_clampInt 2 (.if_icmp .ge 5) 3 5 (5) 7 := ⟨by decide +kernel, rfl, by decide, by decide⟩
theorem o_clampInt_5 : InsA md_clampInt 5 (.iload_n 2) 1 6 := ⟨by decide +kernel, rfl⟩
theorem o_clampInt_6 : InsA md_clampInt 6 (.ireturn) 1 7 := ⟨by decide +kernel, rfl⟩
theorem o_clampInt_7 : InsA md_clampInt 7 (.iload_n 1) 1 8 := ⟨by decide +kernel, rfl⟩
theorem o_clampInt_8 : InsA md_clampInt 8 (.iload_n 3) 1 9 := ⟨by decide +kernel, rfl⟩
theorem o_clampInt_9 : InsB md_clampInt 9 (.if_icmp .le 5) 3 12 (5) 14 := ⟨by decide +kernel, rfl, by decide, by decide⟩
theorem o_clampInt_12 : InsA md_clampInt 12 (.iload_n 3) 1 13 := ⟨by decide +kernel, rfl⟩
theorem o_clampInt_13 : InsA md_clampInt 13 (.ireturn) 1 14 := ⟨by decide +kernel, rfl⟩
theorem o_clampInt_14 : InsA md_clampInt 14 (.iload_n 1) 1 15 := ⟨by decide +kernel, rfl⟩
theorem o_clampInt_15 : InsA md_clampInt 15 (.ireturn) 1 16 := ⟨by decide +kernel, rfl⟩
abbrev md_resetUser : MD := (⟨"DominantShare", "resetUser", "(I)V"⟩, prog_1_method_31_code, 3, none, { frames := 1, cells := 0, slots := 0, locals := 15 }, 0)
theorem cv_resetUser {Z : State} {a0 : Array Value} (H : OK Z a0) : CalV Z a0 md_resetUser 1 := ⟨pn_DominantShare, by decide, pd__I_V, H.w 49 rfl, H.w 51 rfl, H.w 2 rfl, Or.inr ⟨H.w 50 rfl, 19, H.w 1 rfl⟩⟩
theorem o_resetUser_0 : InsA md_resetUser 0 (.aload_n 0) 1 1 := ⟨by decide +kernel, rfl⟩
theorem o_resetUser_1 : InsA md_resetUser 1 (.getfield 19) 3 4 := ⟨by decide +kernel, rfl⟩
theorem o_resetUser_4 : InsA md_resetUser 4 (.iload_n 1) 1 5 := ⟨by decide +kernel, rfl⟩
theorem o_resetUser_5 : InsA md_resetUser 5 (.iconst 1) 1 6 := ⟨by decide +kernel, rfl⟩
theorem o_resetUser_6 : InsA md_resetUser 6 (.iastore) 1 7 := ⟨by decide +kernel, rfl⟩
theorem o_resetUser_7 : InsA md_resetUser 7 (.aload_n 0) 1 8 := ⟨by decide +kernel, rfl⟩
theorem o_resetUser_8 : InsA md_resetUser 8 (.getfield 22) 3 11 := ⟨by decide +kernel, rfl⟩
theorem o_resetUser_11 : InsA md_resetUser 11 (.iload_n 1) 1 12 := ⟨by decide +kernel, rfl⟩
theorem o_resetUser_12 : InsA md_resetUser 12 (.bipush 32) 2 14 := ⟨by decide +kernel, rfl⟩
theorem o_resetUser_14 : InsA md_resetUser 14 (.iastore) 1 15 := ⟨by decide +kernel, rfl⟩
theorem o_resetUser_15 : InsA md_resetUser 15 (.aload_n 0) 1 16 := ⟨by decide +kernel, rfl⟩
theorem o_resetUser_16 : InsA md_resetUser 16 (.getfield 25) 3 19 := ⟨by decide +kernel, rfl⟩
theorem o_resetUser_19 : InsA md_resetUser 19 (.iload_n 1) 1 20 := ⟨by decide +kernel, rfl⟩
theorem o_resetUser_20 : InsA md_resetUser 20 (.iconst 0) 1 21 := ⟨by decide +kernel, rfl⟩
theorem o_resetUser_21 : InsA md_resetUser 21 (.iastore) 1 22 := ⟨by decide +kernel, rfl⟩
theorem o_resetUser_22 : InsA md_resetUser 22 (.aload_n 0) 1 23 := ⟨by decide +kernel, rfl⟩
theorem o_resetUser_23 : InsA md_resetUser 23 (.getfield 28) 3 26 := ⟨by decide +kernel, rfl⟩
theorem o_resetUser_26 : InsA md_resetUser 26 (.iload_n 1) 1 27 := ⟨by decide +kernel, rfl⟩
theorem o_resetUser_27 : InsA md_resetUser 27 (.iconst 0) 1 28 := ⟨by decide +kernel, rfl⟩
theorem o_resetUser_28 : InsA md_resetUser 28 (.iastore) 1 29 := ⟨by decide +kernel, rfl⟩
theorem o_resetUser_29 : InsA md_resetUser 29 (.aload_n 0) 1 30 := ⟨by decide +kernel, rfl⟩
theorem o_resetUser_30 : InsA md_resetUser 30 (.getfield 31) 3 33 := ⟨by decide +kernel, rfl⟩
theorem o_resetUser_33 : InsA md_resetUser 33 (.iload_n 1) 1 34 := ⟨by decide +kernel, rfl⟩
theorem o_resetUser_34 : InsA md_resetUser 34 (.iconst (-1)) 1 35 := ⟨by decide +kernel, rfl⟩
theorem o_resetUser_35 : InsA md_resetUser 35 (.iastore) 1 36 := ⟨by decide +kernel, rfl⟩
theorem o_resetUser_36 : InsA md_resetUser 36 (.aload_n 0) 1 37 := ⟨by decide +kernel, rfl⟩
theorem o_resetUser_37 : InsA md_resetUser 37 (.getfield 34) 3 40 := ⟨by decide +kernel, rfl⟩
theorem o_resetUser_40 : InsA md_resetUser 40 (.iload_n 1) 1 41 := ⟨by decide +kernel, rfl⟩
theorem o_resetUser_41 : InsA md_resetUser 41 (.iconst 0) 1 42 := ⟨by decide +kernel, rfl⟩
theorem o_resetUser_42 : InsA md_resetUser 42 (.iastore) 1 43 := ⟨by decide +kernel, rfl⟩
theorem o_resetUser_43 : InsA md_resetUser 43 (.iconst 0) 1 44 := ⟨by decide +kernel, rfl⟩
theorem o_resetUser_44 : InsA md_resetUser 44 (.istore_n 2) 1 45 := ⟨by decide +kernel, rfl⟩
theorem o_resetUser_45 : InsA md_resetUser 45 (.iload_n 2) 1 46 := ⟨by decide +kernel, rfl⟩
theorem o_resetUser_46 : InsA md_resetUser 46 (.iconst 3) 1 47 := ⟨by decide +kernel, rfl⟩
theorem o_resetUser_47 : InsB md_resetUser 47 (.if_icmp .ge 21) 3 50 (21) 68 := ⟨by decide +kernel, rfl, by decide, by decide⟩
theorem o_resetUser_50 : InsA md_resetUser 50 (.aload_n 0) 1 51 := ⟨by decide +kernel, rfl⟩
theorem o_resetUser_51 : InsA md_resetUser 51 (.getfield 37) 3 54 := ⟨by decide +kernel, rfl⟩
theorem o_resetUser_54 : InsA md_resetUser 54 (.aload_n 0) 1 55 := ⟨by decide +kernel, rfl⟩
theorem o_resetUser_55 : InsA md_resetUser 55 (.iload_n 1) 1 56 := ⟨by decide +kernel, rfl⟩
theorem o_resetUser_56 : InsA md_resetUser 56 (.iload_n 2) 1 57 := ⟨by decide +kernel, rfl⟩
theorem o_resetUser_57 : InsA md_resetUser 57 (.invokevirtual 144) 3 60 := ⟨by decide +kernel, rfl⟩
theorem o_resetUser_60 : InsA md_resetUser 60 (.iconst 0) 1 61 := ⟨by decide +kernel, rfl⟩
theorem o_resetUser_61 : InsA md_resetUser 61 (.iastore) 1 62 := ⟨by decide +kernel, rfl⟩
theorem o_resetUser_62 : InsA md_resetUser 62 (.iinc 2 1) 3 65 := ⟨by decide +kernel, rfl⟩
theorem o_resetUser_65 : InsB md_resetUser 65 (.goto (-20)) 3 68 (-20) 45 := ⟨by decide +kernel, rfl, by decide, by decide⟩
theorem o_resetUser_68 : InsA md_resetUser 68 (.return_) 1 69 := ⟨by decide +kernel, rfl⟩
abbrev md_allocIndex : MD := (⟨"DominantShare", "allocIndex", "(II)I"⟩, prog_1_method_26_code, 3, some .int, { frames := 0, cells := 0, slots := 0, locals := 0 }, 0)
theorem cv_allocIndex {Z : State} {a0 : Array Value} (H : OK Z a0) : CalV Z a0 md_allocIndex 2 := ⟨pn_DominantShare, by decide, pd__II_I, H.w 53 rfl, H.w 55 rfl, H.w 2 rfl, Or.inr ⟨H.w 54 rfl, 19, H.w 1 rfl⟩⟩
theorem o_allocIndex_0 : InsA md_allocIndex 0 (.iload_n 1) 1 1 := ⟨by decide +kernel, rfl⟩
theorem o_allocIndex_1 : InsA md_allocIndex 1 (.iconst 3) 1 2 := ⟨by decide +kernel, rfl⟩
theorem o_allocIndex_2 : InsA md_allocIndex 2 (.imul) 1 3 := ⟨by decide +kernel, rfl⟩
theorem o_allocIndex_3 : InsA md_allocIndex 3 (.iload_n 2) 1 4 := ⟨by decide +kernel, rfl⟩
theorem o_allocIndex_4 : InsA md_allocIndex 4 (.iadd) 1 5 := ⟨by decide +kernel, rfl⟩
theorem o_allocIndex_5 : InsA md_allocIndex 5 (.ireturn) 1 6 := ⟨by decide +kernel, rfl⟩
abbrev md_clearSlotFields : MD := (⟨"DominantShare", "clearSlotFields", "(I)V"⟩, prog_1_method_32_code, 3, none, { frames := 0, cells := 0, slots := 0, locals := 0 }, 0)
theorem cv_clearSlotFields {Z : State} {a0 : Array Value} (H : OK Z a0) : CalV Z a0 md_clearSlotFields 1 := ⟨pn_DominantShare, by decide, pd__I_V, H.w 57 rfl, H.w 59 rfl, H.w 2 rfl, Or.inr ⟨H.w 58 rfl, 19, H.w 1 rfl⟩⟩
theorem o_clearSlotFields_0 : InsA md_clearSlotFields 0 (.aload_n 0) 1 1 := ⟨by decide +kernel, rfl⟩
theorem o_clearSlotFields_1 : InsA md_clearSlotFields 1 (.getfield 40) 3 4 := ⟨by decide +kernel, rfl⟩
theorem o_clearSlotFields_4 : InsA md_clearSlotFields 4 (.iload_n 1) 1 5 := ⟨by decide +kernel, rfl⟩
theorem o_clearSlotFields_5 : InsA md_clearSlotFields 5 (.iconst 0) 1 6 := ⟨by decide +kernel, rfl⟩
theorem o_clearSlotFields_6 : InsA md_clearSlotFields 6 (.iastore) 1 7 := ⟨by decide +kernel, rfl⟩
theorem o_clearSlotFields_7 : InsA md_clearSlotFields 7 (.aload_n 0) 1 8 := ⟨by decide +kernel, rfl⟩
theorem o_clearSlotFields_8 : InsA md_clearSlotFields 8 (.getfield 43) 3 11 := ⟨by decide +kernel, rfl⟩
theorem o_clearSlotFields_11 : InsA md_clearSlotFields 11 (.iload_n 1) 1 12 := ⟨by decide +kernel, rfl⟩
theorem o_clearSlotFields_12 : InsA md_clearSlotFields 12 (.iconst (-1)) 1 13 := ⟨by decide +kernel, rfl⟩
theorem o_clearSlotFields_13 : InsA md_clearSlotFields 13 (.iastore) 1 14 := ⟨by decide +kernel, rfl⟩
theorem o_clearSlotFields_14 : InsA md_clearSlotFields 14 (.aload_n 0) 1 15 := ⟨by decide +kernel, rfl⟩
theorem o_clearSlotFields_15 : InsA md_clearSlotFields 15 (.getfield 46) 3 18 := ⟨by decide +kernel, rfl⟩
theorem o_clearSlotFields_18 : InsA md_clearSlotFields 18 (.iload_n 1) 1 19 := ⟨by decide +kernel, rfl⟩
theorem o_clearSlotFields_19 : InsA md_clearSlotFields 19 (.iconst 0) 1 20 := ⟨by decide +kernel, rfl⟩
theorem o_clearSlotFields_20 : InsA md_clearSlotFields 20 (.iastore) 1 21 := ⟨by decide +kernel, rfl⟩
theorem o_clearSlotFields_21 : InsA md_clearSlotFields 21 (.aload_n 0) 1 22 := ⟨by decide +kernel, rfl⟩
theorem o_clearSlotFields_22 : InsA md_clearSlotFields 22 (.getfield 52) 3 25 := ⟨by decide +kernel, rfl⟩
theorem o_clearSlotFields_25 : InsA md_clearSlotFields 25 (.iload_n 1) 1 26 := ⟨by decide +kernel, rfl⟩
theorem o_clearSlotFields_26 : InsA md_clearSlotFields 26 (.lconst 0) 1 27 := ⟨by decide +kernel, rfl⟩
theorem o_clearSlotFields_27 : InsA md_clearSlotFields 27 (.lastore) 1 28 := ⟨by decide +kernel, rfl⟩
theorem o_clearSlotFields_28 : InsA md_clearSlotFields 28 (.iconst 0) 1 29 := ⟨by decide +kernel, rfl⟩
theorem o_clearSlotFields_29 : InsA md_clearSlotFields 29 (.istore_n 2) 1 30 := ⟨by decide +kernel, rfl⟩
theorem o_clearSlotFields_30 : InsA md_clearSlotFields 30 (.iload_n 2) 1 31 := ⟨by decide +kernel, rfl⟩
theorem o_clearSlotFields_31 : InsA md_clearSlotFields 31 (.iconst 3) 1 32 := ⟨by decide +kernel, rfl⟩
theorem o_clearSlotFields_32 : InsB md_clearSlotFields 32 (.if_icmp .ge 20) 3 35 (20) 52 := ⟨by decide +kernel, rfl, by decide, by decide⟩
theorem o_clearSlotFields_35 : InsA md_clearSlotFields 35 (.aload_n 0) 1 36 := ⟨by decide +kernel, rfl⟩
theorem o_clearSlotFields_36 : InsA md_clearSlotFields 36 (.getfield 49) 3 39 := ⟨by decide +kernel, rfl⟩
theorem o_clearSlotFields_39 : InsA md_clearSlotFields 39 (.iload_n 1) 1 40 := ⟨by decide +kernel, rfl⟩
theorem o_clearSlotFields_40 : InsA md_clearSlotFields 40 (.iconst 3) 1 41 := ⟨by decide +kernel, rfl⟩
theorem o_clearSlotFields_41 : InsA md_clearSlotFields 41 (.imul) 1 42 := ⟨by decide +kernel, rfl⟩
theorem o_clearSlotFields_42 : InsA md_clearSlotFields 42 (.iload_n 2) 1 43 := ⟨by decide +kernel, rfl⟩
theorem o_clearSlotFields_43 : InsA md_clearSlotFields 43 (.iadd) 1 44 := ⟨by decide +kernel, rfl⟩
theorem o_clearSlotFields_44 : InsA md_clearSlotFields 44 (.iconst 0) 1 45 := ⟨by decide +kernel, rfl⟩
theorem o_clearSlotFields_45 : InsA md_clearSlotFields 45 (.iastore) 1 46 := ⟨by decide +kernel, rfl⟩
theorem o_clearSlotFields_46 : InsA md_clearSlotFields 46 (.iinc 2 1) 3 49 := ⟨by decide +kernel, rfl⟩
theorem o_clearSlotFields_49 : InsB md_clearSlotFields 49 (.goto (-19)) 3 52 (-19) 30 := ⟨by decide +kernel, rfl, by decide, by decide⟩
theorem o_clearSlotFields_52 : InsA md_clearSlotFields 52 (.return_) 1 53 := ⟨by decide +kernel, rfl⟩
abbrev md_stage : MD := (⟨"DominantShare", "stage", "(III)Z"⟩, prog_1_method_4_code, 4, some .boolean, { frames := 1, cells := 0, slots := 0, locals := 13 }, 0)
theorem cv_stage {Z : State} {a0 : Array Value} (H : OK Z a0) : CalV Z a0 md_stage 3 := ⟨pn_DominantShare, by decide, pd__III_Z, H.w 68 rfl, H.w 70 rfl, H.w 2 rfl, Or.inl ⟨H.w 67 rfl, H.w 69 rfl⟩⟩
theorem o_stage_0 : InsA md_stage 0 (.aload_n 0) 1 1 := ⟨by decide +kernel, rfl⟩
theorem o_stage_1 : InsA md_stage 1 (.iload_n 1) 1 2 := ⟨by decide +kernel, rfl⟩
theorem o_stage_2 : InsA md_stage 2 (.invokevirtual 95) 3 5 := ⟨by decide +kernel, rfl⟩
theorem o_stage_5 : InsB md_stage 5 (.ifCond .eq 19) 3 8 (19) 24 := ⟨by decide +kernel, rfl, by decide, by decide⟩
theorem o_stage_8 : InsA md_stage 8 (.aload_n 0) 1 9 := ⟨by decide +kernel, rfl⟩
theorem o_stage_9 : InsA md_stage 9 (.iload_n 2) 1 10 := ⟨by decide +kernel, rfl⟩
theorem o_stage_10 : InsA md_stage 10 (.invokevirtual 95) 3 13 := ⟨by decide +kernel, rfl⟩
theorem o_stage_13 : InsB md_stage 13 (.ifCond .eq 11) 3 16 (11) 24 := ⟨by decide +kernel, rfl, by decide, by decide⟩
theorem o_stage_16 : InsA md_stage 16 (.aload_n 0) 1 17 := ⟨by decide +kernel, rfl⟩
theorem o_stage_17 : InsA md_stage 17 (.iload_n 3) 1 18 := ⟨by decide +kernel, rfl⟩
theorem o_stage_18 : InsA md_stage 18 (.invokevirtual 95) 3 21 := ⟨by decide +kernel, rfl⟩
theorem o_stage_21 : InsB md_stage 21 (.ifCond .ne 5) 3 24 (5) 26 := ⟨by decide +kernel, rfl, by decide, by decide⟩
theorem o_stage_24 : InsA md_stage 24 (.iconst 0) 1 25 := ⟨by decide +kernel, rfl⟩
theorem o_stage_25 : InsA md_stage 25 (.ireturn) 1 26 := ⟨by decide +kernel, rfl⟩
theorem o_stage_26 : InsA md_stage 26 (.aload_n 0) 1 27 := ⟨by decide +kernel, rfl⟩
theorem o_stage_27 : InsA md_stage 27 (.getfield 16) 3 30 := ⟨by decide +kernel, rfl⟩
theorem o_stage_30 : InsA md_stage 30 (.iconst 0) 1 31 := ⟨by decide +kernel, rfl⟩
theorem o_stage_31 : InsA md_stage 31 (.iload_n 1) 1 32 := ⟨by decide +kernel, rfl⟩
theorem o_stage_32 : InsA md_stage 32 (.iastore) 1 33 := ⟨by decide +kernel, rfl⟩
theorem o_stage_33 : InsA md_stage 33 (.aload_n 0) 1 34 := ⟨by decide +kernel, rfl⟩
theorem o_stage_34 : InsA md_stage 34 (.getfield 16) 3 37 := ⟨by decide +kernel, rfl⟩
theorem o_stage_37 : InsA md_stage 37 (.iconst 1) 1 38 := ⟨by decide +kernel, rfl⟩
theorem o_stage_38 : InsA md_stage 38 (.iload_n 2) 1 39 := ⟨by decide +kernel, rfl⟩
theorem o_stage_39 : InsA md_stage 39 (.iastore) 1 40 := ⟨by decide +kernel, rfl⟩
theorem o_stage_40 : InsA md_stage 40 (.aload_n 0) 1 41 := ⟨by decide +kernel, rfl⟩
theorem o_stage_41 : InsA md_stage 41 (.getfield 16) 3 44 := ⟨by decide +kernel, rfl⟩
theorem o_stage_44 : InsA md_stage 44 (.iconst 2) 1 45 := ⟨by decide +kernel, rfl⟩
theorem o_stage_45 : InsA md_stage 45 (.iload_n 3) 1 46 := ⟨by decide +kernel, rfl⟩
theorem o_stage_46 : InsA md_stage 46 (.iastore) 1 47 := ⟨by decide +kernel, rfl⟩
theorem o_stage_47 : InsA md_stage 47 (.iconst 1) 1 48 := ⟨by decide +kernel, rfl⟩
theorem o_stage_48 : InsA md_stage 48 (.ireturn) 1 49 := ⟨by decide +kernel, rfl⟩
abbrev md_isDemandValue : MD := (⟨"DominantShare", "isDemandValue", "(I)Z"⟩, prog_1_method_25_code, 2, some .boolean, { frames := 0, cells := 0, slots := 0, locals := 0 }, 0)
theorem cv_isDemandValue {Z : State} {a0 : Array Value} (H : OK Z a0) : CalV Z a0 md_isDemandValue 1 := ⟨pn_DominantShare, by decide, pd__I_Z, H.w 72 rfl, H.w 74 rfl, H.w 2 rfl, Or.inr ⟨H.w 73 rfl, 19, H.w 1 rfl⟩⟩
theorem o_isDemandValue_0 : InsA md_isDemandValue 0 (.iload_n 1) 1 1 := ⟨by decide +kernel, rfl⟩
theorem o_isDemandValue_1 : InsB md_isDemandValue 1 (.ifCond .lt 13) 3 4 (13) 14 := ⟨by decide +kernel, rfl, by decide, by decide⟩
theorem o_isDemandValue_4 : InsA md_isDemandValue 4 (.iload_n 1) 1 5 := ⟨by decide +kernel, rfl⟩
theorem o_isDemandValue_5 : InsA md_isDemandValue 5 (.ldc 56) 2 7 := ⟨by decide +kernel, rfl⟩
theorem o_isDemandValue_7 : InsB md_isDemandValue 7 (.if_icmp .gt 7) 3 10 (7) 14 := ⟨by decide +kernel, rfl, by decide, by decide⟩
theorem o_isDemandValue_10 : InsA md_isDemandValue 10 (.iconst 1) 1 11 := ⟨by decide +kernel, rfl⟩
theorem o_isDemandValue_11 : InsB md_isDemandValue 11 (.goto 4) 3 14 (4) 15 := ⟨by decide +kernel, rfl, by decide, by decide⟩
theorem o_isDemandValue_14 : InsA md_isDemandValue 14 (.iconst 0) 1 15 := ⟨by decide +kernel, rfl⟩
theorem o_isDemandValue_15 : InsA md_isDemandValue 15 (.ireturn) 1 16 := ⟨by decide +kernel, rfl⟩
abbrev md_submit : MD := (⟨"DominantShare", "submit", "(II)I"⟩, prog_1_method_5_code, 4, some .int, { frames := 5, cells := 0, slots := 0, locals := 77 }, 0)
theorem cv_submit {Z : State} {a0 : Array Value} (H : OK Z a0) : CalV Z a0 md_submit 2 := ⟨pn_DominantShare, by decide, pd__II_I, H.w 77 rfl, H.w 79 rfl, H.w 2 rfl, Or.inl ⟨H.w 76 rfl, H.w 78 rfl⟩⟩
theorem o_submit_0 : InsA md_submit 0 (.aload_n 0) 1 1 := ⟨by decide +kernel, rfl⟩
theorem o_submit_1 : InsA md_submit 1 (.iload_n 1) 1 2 := ⟨by decide +kernel, rfl⟩
theorem o_submit_2 : InsA md_submit 2 (.invokevirtual 82) 3 5 := ⟨by decide +kernel, rfl⟩
theorem o_submit_5 : InsB md_submit 5 (.ifCond .ne 5) 3 8 (5) 10 := ⟨by decide +kernel, rfl, by decide, by decide⟩
theorem o_submit_8 : InsA md_submit 8 (.iconst (-1)) 1 9 := ⟨by decide +kernel, rfl⟩
theorem o_submit_9 : InsA md_submit 9 (.ireturn) 1 10 := ⟨by decide +kernel, rfl⟩
theorem o_submit_10 : InsA md_submit 10 (.aload_n 0) 1 11 := ⟨by decide +kernel, rfl⟩
theorem o_submit_11 : InsA md_submit 11 (.iload_n 2) 1 12 := ⟨by decide +kernel, rfl⟩
theorem o_submit_12 : InsA md_submit 12 (.invokevirtual 98) 3 15 := ⟨by decide +kernel, rfl⟩
theorem o_submit_15 : InsB md_submit 15 (.ifCond .ne 6) 3 18 (6) 21 := ⟨by decide +kernel, rfl, by decide, by decide⟩
theorem o_submit_18 : InsA md_submit 18 (.bipush (-2)) 2 20 := ⟨by decide +kernel, rfl⟩
theorem o_submit_20 : InsA md_submit 20 (.ireturn) 1 21 := ⟨by decide +kernel, rfl⟩
theorem o_submit_21 : InsA md_submit 21 (.aload_n 0) 1 22 := ⟨by decide +kernel, rfl⟩
theorem o_submit_22 : InsA md_submit 22 (.invokevirtual 101) 3 25 := ⟨by decide +kernel, rfl⟩
theorem o_submit_25 : InsB md_submit 25 (.ifCond .eq 6) 3 28 (6) 31 := ⟨by decide +kernel, rfl, by decide, by decide⟩
theorem o_submit_28 : InsA md_submit 28 (.bipush (-3)) 2 30 := ⟨by decide +kernel, rfl⟩
theorem o_submit_30 : InsA md_submit 30 (.ireturn) 1 31 := ⟨by decide +kernel, rfl⟩
theorem o_submit_31 : InsA md_submit 31 (.aload_n 0) 1 32 := ⟨by decide +kernel, rfl⟩
theorem o_submit_32 : InsA md_submit 32 (.iload_n 2) 1 33 := ⟨by decide +kernel, rfl⟩
theorem o_submit_33 : InsA md_submit 33 (.invokevirtual 105) 3 36 := ⟨by decide +kernel, rfl⟩
theorem o_submit_36 : InsB md_submit 36 (.ifCond .eq 6) 3 39 (6) 42 := ⟨by decide +kernel, rfl, by decide, by decide⟩
theorem o_submit_39 : InsA md_submit 39 (.bipush (-4)) 2 41 := ⟨by decide +kernel, rfl⟩
theorem o_submit_41 : InsA md_submit 41 (.ireturn) 1 42 := ⟨by decide +kernel, rfl⟩
theorem o_submit_42 : InsA md_submit 42 (.aload_n 0) 1 43 := ⟨by decide +kernel, rfl⟩
theorem o_submit_43 : InsA md_submit 43 (.invokevirtual 108) 3 46 := ⟨by decide +kernel, rfl⟩
theorem o_submit_46 : InsA md_submit 46 (.istore_n 3) 1 47 := ⟨by decide +kernel, rfl⟩
theorem o_submit_47 : InsA md_submit 47 (.iload_n 3) 1 48 := ⟨by decide +kernel, rfl⟩
theorem o_submit_48 : InsB md_submit 48 (.ifCond .ge 6) 3 51 (6) 54 := ⟨by decide +kernel, rfl, by decide, by decide⟩
theorem o_submit_51 : InsA md_submit 51 (.bipush (-5)) 2 53 := ⟨by decide +kernel, rfl⟩
theorem o_submit_53 : InsA md_submit 53 (.ireturn) 1 54 := ⟨by decide +kernel, rfl⟩
theorem o_submit_54 : InsA md_submit 54 (.aload_n 0) 1 55 := ⟨by decide +kernel, rfl⟩
theorem o_submit_55 : InsA md_submit 55 (.iload_n 3) 1 56 := ⟨by decide +kernel, rfl⟩
theorem o_submit_56 : InsA md_submit 56 (.iload_n 1) 1 57 := ⟨by decide +kernel, rfl⟩
theorem o_submit_57 : InsA md_submit 57 (.iload_n 2) 1 58 := ⟨by decide +kernel, rfl⟩
theorem o_submit_58 : InsA md_submit 58 (.invokevirtual 112) 3 61 := ⟨by decide +kernel, rfl⟩
theorem o_submit_61 : InsA md_submit 61 (.aload_n 0) 1 62 := ⟨by decide +kernel, rfl⟩
theorem o_submit_62 : InsA md_submit 62 (.invokevirtual 89) 3 65 := ⟨by decide +kernel, rfl⟩
theorem o_submit_65 : InsA md_submit 65 (.iload_n 3) 1 66 := ⟨by decide +kernel, rfl⟩
theorem o_submit_66 : InsA md_submit 66 (.ireturn) 1 67 := ⟨by decide +kernel, rfl⟩
abbrev md_isUser : MD := (⟨"DominantShare", "isUser", "(I)Z"⟩, prog_1_method_19_code, 2, some .boolean, { frames := 0, cells := 0, slots := 0, locals := 0 }, 0)
theorem cv_isUser {Z : State} {a0 : Array Value} (H : OK Z a0) : CalV Z a0 md_isUser 1 := ⟨pn_DominantShare, by decide, pd__I_Z, H.w 81 rfl, H.w 83 rfl, H.w 2 rfl, Or.inr ⟨H.w 82 rfl, 19, H.w 1 rfl⟩⟩
theorem o_isUser_0 : InsA md_isUser 0 (.iload_n 1) 1 1 := ⟨by decide +kernel, rfl⟩
theorem o_isUser_1 : InsB md_isUser 1 (.ifCond .lt 21) 3 4 (21) 22 := ⟨by decide +kernel, rfl, by decide, by decide⟩
theorem o_isUser_4 : InsA md_isUser 4 (.iload_n 1) 1 5 := ⟨by decide +kernel, rfl⟩
theorem o_isUser_5 : InsA md_isUser 5 (.aload_n 0) 1 6 := ⟨by decide +kernel, rfl⟩
theorem o_isUser_6 : InsA md_isUser 6 (.getfield 61) 3 9 := ⟨by decide +kernel, rfl⟩
theorem o_isUser_9 : InsB md_isUser 9 (.if_icmp .ge 13) 3 12 (13) 22 := ⟨by decide +kernel, rfl, by decide, by decide⟩
theorem o_isUser_12 : InsA md_isUser 12 (.iload_n 1) 1 13 := ⟨by decide +kernel, rfl⟩
theorem o_isUser_13 : InsA md_isUser 13 (.bipush 8) 2 15 := ⟨by decide +kernel, rfl⟩
theorem o_isUser_15 : InsB md_isUser 15 (.if_icmp .ge 7) 3 18 (7) 22 := ⟨by decide +kernel, rfl, by decide, by decide⟩
theorem o_isUser_18 : InsA md_isUser 18 (.iconst 1) 1 19 := ⟨by decide +kernel, rfl⟩
theorem o_isUser_19 : InsB md_isUser 19 (.goto 4) 3 22 (4) 23 := ⟨by decide +kernel, rfl, by decide, by decide⟩
theorem o_isUser_22 : InsA md_isUser 22 (.iconst 0) 1 23 := ⟨by decide +kernel, rfl⟩
theorem o_isUser_23 : InsA md_isUser 23 (.ireturn) 1 24 := ⟨by decide +kernel, rfl⟩
abbrev md_isGangValue : MD := (⟨"DominantShare", "isGangValue", "(I)Z"⟩, prog_1_method_22_code, 2, some .boolean, { frames := 0, cells := 0, slots := 0, locals := 0 }, 0)
theorem cv_isGangValue {Z : State} {a0 : Array Value} (H : OK Z a0) : CalV Z a0 md_isGangValue 1 := ⟨pn_DominantShare, by decide, pd__I_Z, H.w 85 rfl, H.w 87 rfl, H.w 2 rfl, Or.inr ⟨H.w 86 rfl, 19, H.w 1 rfl⟩⟩
theorem o_isGangValue_0 : InsA md_isGangValue 0 (.iload_n 1) 1 1 := ⟨by decide +kernel, rfl⟩
theorem o_isGangValue_1 : InsA md_isGangValue 1 (.iconst 1) 1 2 := ⟨by decide +kernel, rfl⟩
theorem o_isGangValue_2 : InsB md_isGangValue 2 (.if_icmp .lt 12) 3 5 (12) 14 := ⟨by decide +kernel, rfl, by decide, by decide⟩
theorem o_isGangValue_5 : InsA md_isGangValue 5 (.iload_n 1) 1 6 := ⟨by decide +kernel, rfl⟩
theorem o_isGangValue_6 : InsA md_isGangValue 6 (.iconst 4) 1 7 := ⟨by decide +kernel, rfl⟩
theorem o_isGangValue_7 : InsB md_isGangValue 7 (.if_icmp .gt 7) 3 10 (7) 14 := ⟨by decide +kernel, rfl, by decide, by decide⟩
theorem o_isGangValue_10 : InsA md_isGangValue 10 (.iconst 1) 1 11 := ⟨by decide +kernel, rfl⟩
theorem o_isGangValue_11 : InsB md_isGangValue 11 (.goto 4) 3 14 (4) 15 := ⟨by decide +kernel, rfl, by decide, by decide⟩
theorem o_isGangValue_14 : InsA md_isGangValue 14 (.iconst 0) 1 15 := ⟨by decide +kernel, rfl⟩
theorem o_isGangValue_15 : InsA md_isGangValue 15 (.ireturn) 1 16 := ⟨by decide +kernel, rfl⟩
abbrev md_stagedIsZero : MD := (⟨"DominantShare", "stagedIsZero", "()Z"⟩, prog_1_method_29_code, 1, some .boolean, { frames := 0, cells := 0, slots := 0, locals := 0 }, 0)
theorem cv_stagedIsZero {Z : State} {a0 : Array Value} (H : OK Z a0) : CalV Z a0 md_stagedIsZero 0 := ⟨pn_DominantShare, by decide, pd___Z, H.w 89 rfl, H.w 91 rfl, H.w 2 rfl, Or.inr ⟨H.w 90 rfl, 19, H.w 1 rfl⟩⟩
theorem o_stagedIsZero_0 : InsA md_stagedIsZero 0 (.aload_n 0) 1 1 := ⟨by decide +kernel, rfl⟩
theorem o_stagedIsZero_1 : InsA md_stagedIsZero 1 (.getfield 16) 3 4 := ⟨by decide +kernel, rfl⟩
theorem o_stagedIsZero_4 : InsA md_stagedIsZero 4 (.iconst 0) 1 5 := ⟨by decide +kernel, rfl⟩
theorem o_stagedIsZero_5 : InsA md_stagedIsZero 5 (.iaload) 1 6 := ⟨by decide +kernel, rfl⟩
theorem o_stagedIsZero_6 : InsB md_stagedIsZero 6 (.ifCond .ne 25) 3 9 (25) 31 := ⟨by decide +kernel, rfl, by decide, by decide⟩
theorem o_stagedIsZero_9 : InsA md_stagedIsZero 9 (.aload_n 0) 1 10 := ⟨by decide +kernel, rfl⟩
theorem o_stagedIsZero_10 : InsA md_stagedIsZero 10 (.getfield 16) 3 13 := ⟨by decide +kernel, rfl⟩
theorem o_stagedIsZero_13 : InsA md_stagedIsZero 13 (.iconst 1) 1 14 := ⟨by decide +kernel, rfl⟩
theorem o_stagedIsZero_14 : InsA md_stagedIsZero 14 (.iaload) 1 15 := ⟨by decide +kernel, rfl⟩
theorem o_stagedIsZero_15 : InsB md_stagedIsZero 15 (.ifCond .ne 16) 3 18 (16) 31 := ⟨by decide +kernel, rfl, by decide, by decide⟩
theorem o_stagedIsZero_18 : InsA md_stagedIsZero 18 (.aload_n 0) 1 19 := ⟨by decide +kernel, rfl⟩
theorem o_stagedIsZero_19 : InsA md_stagedIsZero 19 (.getfield 16) 3 22 := ⟨by decide +kernel, rfl⟩
theorem o_stagedIsZero_22 : InsA md_stagedIsZero 22 (.iconst 2) 1 23 := ⟨by decide +kernel, rfl⟩
theorem o_stagedIsZero_23 : InsA md_stagedIsZero 23 (.iaload) 1 24 := ⟨by decide +kernel, rfl⟩
theorem o_stagedIsZero_24 : InsB md_stagedIsZero 24 (.ifCond .ne 7) 3 27 (7) 31 := ⟨by decide +kernel, rfl, by decide, by decide⟩
theorem o_stagedIsZero_27 : InsA md_stagedIsZero 27 (.iconst 1) 1 28 := ⟨by decide +kernel, rfl⟩
theorem o_stagedIsZero_28 : InsB md_stagedIsZero 28 (.goto 4) 3 31 (4) 32 := ⟨by decide +kernel, rfl, by decide, by decide⟩
theorem o_stagedIsZero_31 : InsA md_stagedIsZero 31 (.iconst 0) 1 32 := ⟨by decide +kernel, rfl⟩
theorem o_stagedIsZero_32 : InsA md_stagedIsZero 32 (.ireturn) 1 33 := ⟨by decide +kernel, rfl⟩
abbrev md_stagedNeverFits : MD := (⟨"DominantShare", "stagedNeverFits", "(I)Z"⟩, prog_1_method_30_code, 5, some .boolean, { frames := 0, cells := 0, slots := 0, locals := 0 }, 0)
theorem cv_stagedNeverFits {Z : State} {a0 : Array Value} (H : OK Z a0) : CalV Z a0 md_stagedNeverFits 1 := ⟨pn_DominantShare, by decide, pd__I_Z, H.w 93 rfl, H.w 95 rfl, H.w 2 rfl, Or.inr ⟨H.w 94 rfl, 19, H.w 1 rfl⟩⟩
theorem o_stagedNeverFits_0 : InsA md_stagedNeverFits 0 (.iconst 0) 1 1 := ⟨by decide +kernel, rfl⟩
theorem o_stagedNeverFits_1 : InsA md_stagedNeverFits 1 (.istore_n 2) 1 2 := ⟨by decide +kernel, rfl⟩
theorem o_stagedNeverFits_2 : InsA md_stagedNeverFits 2 (.iload_n 2) 1 3 := ⟨by decide +kernel, rfl⟩
theorem o_stagedNeverFits_3 : InsA md_stagedNeverFits 3 (.iconst 3) 1 4 := ⟨by decide +kernel, rfl⟩
theorem o_stagedNeverFits_4 : InsB md_stagedNeverFits 4 (.if_icmp .ge 34) 3 7 (34) 38 := ⟨by decide +kernel, rfl, by decide, by decide⟩
theorem o_stagedNeverFits_7 : InsA md_stagedNeverFits 7 (.iload_n 1) 1 8 := ⟨by decide +kernel, rfl⟩
theorem o_stagedNeverFits_8 : InsA md_stagedNeverFits 8 (.i2l) 1 9 := ⟨by decide +kernel, rfl⟩
theorem o_stagedNeverFits_9 : InsA md_stagedNeverFits 9 (.aload_n 0) 1 10 := ⟨by decide +kernel, rfl⟩
theorem o_stagedNeverFits_10 : InsA md_stagedNeverFits 10 (.getfield 16) 3 13 := ⟨by decide +kernel, rfl⟩
theorem o_stagedNeverFits_13 : InsA md_stagedNeverFits 13 (.iload_n 2) 1 14 := ⟨by decide +kernel, rfl⟩
theorem o_stagedNeverFits_14 : InsA md_stagedNeverFits 14 (.iaload) 1 15 := ⟨by decide +kernel, rfl⟩
theorem o_stagedNeverFits_15 : InsA md_stagedNeverFits 15 (.i2l) 1 16 := ⟨by decide +kernel, rfl⟩
theorem o_stagedNeverFits_16 : InsA md_stagedNeverFits 16 (.lmul) 1 17 := ⟨by decide +kernel, rfl⟩
theorem o_stagedNeverFits_17 : InsA md_stagedNeverFits 17 (.lstore_n 3) 1 18 := ⟨by decide +kernel, rfl⟩
theorem o_stagedNeverFits_18 : InsA md_stagedNeverFits 18 (.lload_n 3) 1 19 := ⟨by decide +kernel, rfl⟩
theorem o_stagedNeverFits_19 : InsA md_stagedNeverFits 19 (.aload_n 0) 1 20 := ⟨by decide +kernel, rfl⟩
theorem o_stagedNeverFits_20 : InsA md_stagedNeverFits 20 (.getfield 7) 3 23 := ⟨by decide +kernel, rfl⟩
theorem o_stagedNeverFits_23 : InsA md_stagedNeverFits 23 (.iload_n 2) 1 24 := ⟨by decide +kernel, rfl⟩
theorem o_stagedNeverFits_24 : InsA md_stagedNeverFits 24 (.iaload) 1 25 := ⟨by decide +kernel, rfl⟩
theorem o_stagedNeverFits_25 : InsA md_stagedNeverFits 25 (.i2l) 1 26 := ⟨by decide +kernel, rfl⟩
theorem o_stagedNeverFits_26 : InsA md_stagedNeverFits 26 (.lcmp) 1 27 := ⟨by decide +kernel, rfl⟩
theorem o_stagedNeverFits_27 : InsB md_stagedNeverFits 27 (.ifCond .le 5) 3 30 (5) 32 := ⟨by decide +kernel, rfl, by decide, by decide⟩
theorem o_stagedNeverFits_30 : InsA md_stagedNeverFits 30 (.iconst 1) 1 31 := ⟨by decide +kernel, rfl⟩
theorem o_stagedNeverFits_31 : InsA md_stagedNeverFits 31 (.ireturn) 1 32 := ⟨by decide +kernel, rfl⟩
theorem o_stagedNeverFits_32 : InsA md_stagedNeverFits 32 (.iinc 2 1) 3 35 := ⟨by decide +kernel, rfl⟩
theorem o_stagedNeverFits_35 : InsB md_stagedNeverFits 35 (.goto (-33)) 3 38 (-33) 2 := ⟨by decide +kernel, rfl, by decide, by decide⟩
theorem o_stagedNeverFits_38 : InsA md_stagedNeverFits 38 (.iconst 0) 1 39 := ⟨by decide +kernel, rfl⟩
theorem o_stagedNeverFits_39 : InsA md_stagedNeverFits 39 (.ireturn) 1 40 := ⟨by decide +kernel, rfl⟩
abbrev md_lowestFreeSlot : MD := (⟨"DominantShare", "lowestFreeSlot", "()I"⟩, prog_1_method_34_code, 2, some .int, { frames := 0, cells := 0, slots := 0, locals := 0 }, 0)
theorem cv_lowestFreeSlot {Z : State} {a0 : Array Value} (H : OK Z a0) : CalV Z a0 md_lowestFreeSlot 0 := ⟨pn_DominantShare, by decide, pd___I, H.w 97 rfl, H.w 99 rfl, H.w 2 rfl, Or.inr ⟨H.w 98 rfl, 19, H.w 1 rfl⟩⟩
theorem o_lowestFreeSlot_0 : InsA md_lowestFreeSlot 0 (.aload_n 0) 1 1 := ⟨by decide +kernel, rfl⟩
theorem o_lowestFreeSlot_1 : InsA md_lowestFreeSlot 1 (.getfield 72) 3 4 := ⟨by decide +kernel, rfl⟩
theorem o_lowestFreeSlot_4 : InsB md_lowestFreeSlot 4 (.ifCond .gt 5) 3 7 (5) 9 := ⟨by decide +kernel, rfl, by decide, by decide⟩
theorem o_lowestFreeSlot_7 : InsA md_lowestFreeSlot 7 (.iconst (-1)) 1 8 := ⟨by decide +kernel, rfl⟩
theorem o_lowestFreeSlot_8 : InsA md_lowestFreeSlot 8 (.ireturn) 1 9 := ⟨by decide +kernel, rfl⟩
theorem o_lowestFreeSlot_9 : InsA md_lowestFreeSlot 9 (.iconst 0) 1 10 := ⟨by decide +kernel, rfl⟩
theorem o_lowestFreeSlot_10 : InsA md_lowestFreeSlot 10 (.istore_n 1) 1 11 := ⟨by decide +kernel, rfl⟩
theorem o_lowestFreeSlot_11 : InsA md_lowestFreeSlot 11 (.iload_n 1) 1 12 := ⟨by decide +kernel, rfl⟩
theorem o_lowestFreeSlot_12 : InsA md_lowestFreeSlot 12 (.bipush 32) 2 14 := ⟨by decide +kernel, rfl⟩
theorem o_lowestFreeSlot_14 : InsB md_lowestFreeSlot 14 (.if_icmp .ge 20) 3 17 (20) 34 := ⟨by decide +kernel, rfl, by decide, by decide⟩
theorem o_lowestFreeSlot_17 : InsA md_lowestFreeSlot 17 (.aload_n 0) 1 18 := ⟨by decide +kernel, rfl⟩
theorem o_lowestFreeSlot_18 : InsA md_lowestFreeSlot 18 (.getfield 40) 3 21 := ⟨by decide +kernel, rfl⟩
theorem o_lowestFreeSlot_21 : InsA md_lowestFreeSlot 21 (.iload_n 1) 1 22 := ⟨by decide +kernel, rfl⟩
theorem o_lowestFreeSlot_22 : InsA md_lowestFreeSlot 22 (.iaload) 1 23 := ⟨by decide +kernel, rfl⟩
theorem o_lowestFreeSlot_23 : InsB md_lowestFreeSlot 23 (.ifCond .ne 5) 3 26 (5) 28 := ⟨by decide +kernel, rfl, by decide, by decide⟩
theorem o_lowestFreeSlot_26 : InsA md_lowestFreeSlot 26 (.iload_n 1) 1 27 := ⟨by decide +kernel, rfl⟩
theorem o_lowestFreeSlot_27 : InsA md_lowestFreeSlot 27 (.ireturn) 1 28 := ⟨by decide +kernel, rfl⟩
theorem o_lowestFreeSlot_28 : InsA md_lowestFreeSlot 28 (.iinc 1 1) 3 31 := ⟨by decide +kernel, rfl⟩
theorem o_lowestFreeSlot_31 : InsB md_lowestFreeSlot 31 (.goto (-20)) 3 34 (-20) 11 := ⟨by decide +kernel, rfl, by decide, by decide⟩
theorem o_lowestFreeSlot_34 : InsA md_lowestFreeSlot 34 (.iconst (-1)) 1 35 := ⟨by decide +kernel, rfl⟩
theorem o_lowestFreeSlot_35 : InsA md_lowestFreeSlot 35 (.ireturn) 1 36 := ⟨by decide +kernel, rfl⟩
abbrev md_occupySlot : MD := (⟨"DominantShare", "occupySlot", "(III)V"⟩, prog_1_method_35_code, 5, none, { frames := 0, cells := 0, slots := 0, locals := 0 }, 0)
theorem cv_occupySlot {Z : State} {a0 : Array Value} (H : OK Z a0) : CalV Z a0 md_occupySlot 3 := ⟨pn_DominantShare, by decide, pd__III_V, H.w 101 rfl, H.w 103 rfl, H.w 2 rfl, Or.inr ⟨H.w 102 rfl, 19, H.w 1 rfl⟩⟩
theorem o_occupySlot_0 : InsA md_occupySlot 0 (.aload_n 0) 1 1 := ⟨by decide +kernel, rfl⟩
theorem o_occupySlot_1 : InsA md_occupySlot 1 (.getfield 40) 3 4 := ⟨by decide +kernel, rfl⟩
theorem o_occupySlot_4 : InsA md_occupySlot 4 (.iload_n 1) 1 5 := ⟨by decide +kernel, rfl⟩
theorem o_occupySlot_5 : InsA md_occupySlot 5 (.iconst 1) 1 6 := ⟨by decide +kernel, rfl⟩
theorem o_occupySlot_6 : InsA md_occupySlot 6 (.iastore) 1 7 := ⟨by decide +kernel, rfl⟩
theorem o_occupySlot_7 : InsA md_occupySlot 7 (.aload_n 0) 1 8 := ⟨by decide +kernel, rfl⟩
theorem o_occupySlot_8 : InsA md_occupySlot 8 (.getfield 43) 3 11 := ⟨by decide +kernel, rfl⟩
theorem o_occupySlot_11 : InsA md_occupySlot 11 (.iload_n 1) 1 12 := ⟨by decide +kernel, rfl⟩
theorem o_occupySlot_12 : InsA md_occupySlot 12 (.iload_n 2) 1 13 := ⟨by decide +kernel, rfl⟩
theorem o_occupySlot_13 : InsA md_occupySlot 13 (.iastore) 1 14 := ⟨by decide +kernel, rfl⟩
theorem o_occupySlot_14 : InsA md_occupySlot 14 (.aload_n 0) 1 15 := ⟨by decide +kernel, rfl⟩
theorem o_occupySlot_15 : InsA md_occupySlot 15 (.getfield 46) 3 18 := ⟨by decide +kernel, rfl⟩
theorem o_occupySlot_18 : InsA md_occupySlot 18 (.iload_n 1) 1 19 := ⟨by decide +kernel, rfl⟩
theorem o_occupySlot_19 : InsA md_occupySlot 19 (.iload_n 3) 1 20 := ⟨by decide +kernel, rfl⟩
theorem o_occupySlot_20 : InsA md_occupySlot 20 (.iastore) 1 21 := ⟨by decide +kernel, rfl⟩
theorem o_occupySlot_21 : InsA md_occupySlot 21 (.iconst 0) 1 22 := ⟨by decide +kernel, rfl⟩
theorem o_occupySlot_22 : InsA md_occupySlot 22 (.istore 4) 2 24 := ⟨by decide +kernel, rfl⟩
theorem o_occupySlot_24 : InsA md_occupySlot 24 (.iload 4) 2 26 := ⟨by decide +kernel, rfl⟩
theorem o_occupySlot_26 : InsA md_occupySlot 26 (.iconst 3) 1 27 := ⟨by decide +kernel, rfl⟩
theorem o_occupySlot_27 : InsB md_occupySlot 27 (.if_icmp .ge 27) 3 30 (27) 54 := ⟨by decide +kernel, rfl, by decide, by decide⟩
theorem o_occupySlot_30 : InsA md_occupySlot 30 (.aload_n 0) 1 31 := ⟨by decide +kernel, rfl⟩
theorem o_occupySlot_31 : InsA md_occupySlot 31 (.getfield 49) 3 34 := ⟨by decide +kernel, rfl⟩
theorem o_occupySlot_34 : InsA md_occupySlot 34 (.iload_n 1) 1 35 := ⟨by decide +kernel, rfl⟩
theorem o_occupySlot_35 : InsA md_occupySlot 35 (.iconst 3) 1 36 := ⟨by decide +kernel, rfl⟩
theorem o_occupySlot_36 : InsA md_occupySlot 36 (.imul) 1 37 := ⟨by decide +kernel, rfl⟩
theorem o_occupySlot_37 : InsA md_occupySlot 37 (.iload 4) 2 39 := ⟨by decide +kernel, rfl⟩
theorem o_occupySlot_39 : InsA md_occupySlot 39 (.iadd) 1 40 := ⟨by decide +kernel, rfl⟩
theorem o_occupySlot_40 : InsA md_occupySlot 40 (.aload_n 0) 1 41 := ⟨by decide +kernel, rfl⟩
theorem o_occupySlot_41 : InsA md_occupySlot 41 (.getfield 16) 3 44 := ⟨by decide +kernel, rfl⟩
theorem o_occupySlot_44 : InsA md_occupySlot 44 (.iload 4) 2 46 := ⟨by decide +kernel, rfl⟩
theorem o_occupySlot_46 : InsA md_occupySlot 46 (.iaload) 1 47 := ⟨by decide +kernel, rfl⟩
theorem o_occupySlot_47 : InsA md_occupySlot 47 (.iastore) 1 48 := ⟨by decide +kernel, rfl⟩
theorem o_occupySlot_48 : InsA md_occupySlot 48 (.iinc 4 1) 3 51 := ⟨by decide +kernel, rfl⟩
theorem o_occupySlot_51 : InsB md_occupySlot 51 (.goto (-27)) 3 54 (-27) 24 := ⟨by decide +kernel, rfl, by decide, by decide⟩
theorem o_occupySlot_54 : InsA md_occupySlot 54 (.aload_n 0) 1 55 := ⟨by decide +kernel, rfl⟩
theorem o_occupySlot_55 : InsA md_occupySlot 55 (.getfield 52) 3 58 := ⟨by decide +kernel, rfl⟩
theorem o_occupySlot_58 : InsA md_occupySlot 58 (.iload_n 1) 1 59 := ⟨by decide +kernel, rfl⟩
theorem o_occupySlot_59 : InsA md_occupySlot 59 (.aload_n 0) 1 60 := ⟨by decide +kernel, rfl⟩
theorem o_occupySlot_60 : InsA md_occupySlot 60 (.getfield 75) 3 63 := ⟨by decide +kernel, rfl⟩
theorem o_occupySlot_63 : InsA md_occupySlot 63 (.lastore) 1 64 := ⟨by decide +kernel, rfl⟩
theorem o_occupySlot_64 : InsA md_occupySlot 64 (.aload_n 0) 1 65 := ⟨by decide +kernel, rfl⟩
theorem o_occupySlot_65 : InsA md_occupySlot 65 (.dup) 1 66 := ⟨by decide +kernel, rfl⟩
theorem o_occupySlot_66 : InsA md_occupySlot 66 (.getfield 75) 3 69 := ⟨by decide +kernel, rfl⟩
theorem o_occupySlot_69 : InsA md_occupySlot 69 (.lconst 1) 1 70 := ⟨by decide +kernel, rfl⟩
theorem o_occupySlot_70 : InsA md_occupySlot 70 (.ladd) 1 71 := ⟨by decide +kernel, rfl⟩
theorem o_occupySlot_71 : InsA md_occupySlot 71 (.putfield 75) 3 74 := ⟨by decide +kernel, rfl⟩
theorem o_occupySlot_74 : InsA md_occupySlot 74 (.aload_n 0) 1 75 := ⟨by decide +kernel, rfl⟩
theorem o_occupySlot_75 : InsA md_occupySlot 75 (.dup) 1 76 := ⟨by decide +kernel, rfl⟩
theorem o_occupySlot_76 : InsA md_occupySlot 76 (.getfield 72) 3 79 := ⟨by decide +kernel, rfl⟩
theorem o_occupySlot_79 : InsA md_occupySlot 79 (.iconst 1) 1 80 := ⟨by decide +kernel, rfl⟩
theorem o_occupySlot_80 : InsA md_occupySlot 80 (.isub) 1 81 := ⟨by decide +kernel, rfl⟩
theorem o_occupySlot_81 : InsA md_occupySlot 81 (.putfield 72) 3 84 := ⟨by decide +kernel, rfl⟩
theorem o_occupySlot_84 : InsA md_occupySlot 84 (.aload_n 0) 1 85 := ⟨by decide +kernel, rfl⟩
theorem o_occupySlot_85 : InsA md_occupySlot 85 (.getfield 28) 3 88 := ⟨by decide +kernel, rfl⟩
theorem o_occupySlot_88 : InsA md_occupySlot 88 (.iload_n 2) 1 89 := ⟨by decide +kernel, rfl⟩
theorem o_occupySlot_89 : InsA md_occupySlot 89 (.dup2) 1 90 := ⟨by decide +kernel, rfl⟩
theorem o_occupySlot_90 : InsA md_occupySlot 90 (.iaload) 1 91 := ⟨by decide +kernel, rfl⟩
theorem o_occupySlot_91 : InsA md_occupySlot 91 (.iconst 1) 1 92 := ⟨by decide +kernel, rfl⟩
theorem o_occupySlot_92 : InsA md_occupySlot 92 (.iadd) 1 93 := ⟨by decide +kernel, rfl⟩
theorem o_occupySlot_93 : InsA md_occupySlot 93 (.iastore) 1 94 := ⟨by decide +kernel, rfl⟩
theorem o_occupySlot_94 : InsA md_occupySlot 94 (.aload_n 0) 1 95 := ⟨by decide +kernel, rfl⟩
theorem o_occupySlot_95 : InsA md_occupySlot 95 (.getfield 31) 3 98 := ⟨by decide +kernel, rfl⟩
theorem o_occupySlot_98 : InsA md_occupySlot 98 (.iload_n 2) 1 99 := ⟨by decide +kernel, rfl⟩
theorem o_occupySlot_99 : InsA md_occupySlot 99 (.iaload) 1 100 := ⟨by decide +kernel, rfl⟩
theorem o_occupySlot_100 : InsB md_occupySlot 100 (.ifCond .ge 10) 3 103 (10) 110 := ⟨by decide +kernel, rfl, by decide, by decide⟩
theorem o_occupySlot_103 : InsA md_occupySlot 103 (.aload_n 0) 1 104 := ⟨by decide +kernel, rfl⟩
theorem o_occupySlot_104 : InsA md_occupySlot 104 (.getfield 31) 3 107 := ⟨by decide +kernel, rfl⟩
theorem o_occupySlot_107 : InsA md_occupySlot 107 (.iload_n 2) 1 108 := ⟨by decide +kernel, rfl⟩
theorem o_occupySlot_108 : InsA md_occupySlot 108 (.iload_n 1) 1 109 := ⟨by decide +kernel, rfl⟩
theorem o_occupySlot_109 : InsA md_occupySlot 109 (.iastore) 1 110 := ⟨by decide +kernel, rfl⟩
theorem o_occupySlot_110 : InsA md_occupySlot 110 (.return_) 1 111 := ⟨by decide +kernel, rfl⟩
abbrev md_runReservationRule : MD := (⟨"DominantShare", "runReservationRule", "()V"⟩, prog_1_method_50_code, 1, none, { frames := 4, cells := 0, slots := 0, locals := 65 }, 0)
theorem cv_runReservationRule {Z : State} {a0 : Array Value} (H : OK Z a0) : CalV Z a0 md_runReservationRule 0 := ⟨pn_DominantShare, by decide, pd___V, H.w 105 rfl, H.w 107 rfl, H.w 2 rfl, Or.inr ⟨H.w 106 rfl, 19, H.w 1 rfl⟩⟩
theorem o_runReservationRule_0 : InsA md_runReservationRule 0 (.aload_n 0) 1 1 := ⟨by decide +kernel, rfl⟩
theorem o_runReservationRule_1 : InsA md_runReservationRule 1 (.invokevirtual 178) 3 4 := ⟨by decide +kernel, rfl⟩
theorem o_runReservationRule_4 : InsB md_runReservationRule 4 (.ifCond .eq 8) 3 7 (8) 12 := ⟨by decide +kernel, rfl, by decide, by decide⟩
theorem o_runReservationRule_7 : InsA md_runReservationRule 7 (.aload_n 0) 1 8 := ⟨by decide +kernel, rfl⟩
theorem o_runReservationRule_8 : InsA md_runReservationRule 8 (.iconst (-1)) 1 9 := ⟨by decide +kernel, rfl⟩
theorem o_runReservationRule_9 : InsA md_runReservationRule 9 (.putfield 79) 3 12 := ⟨by decide +kernel, rfl⟩
theorem o_runReservationRule_12 : InsA md_runReservationRule 12 (.aload_n 0) 1 13 := ⟨by decide +kernel, rfl⟩
theorem o_runReservationRule_13 : InsA md_runReservationRule 13 (.getfield 79) 3 16 := ⟨by decide +kernel, rfl⟩
theorem o_runReservationRule_16 : InsB md_runReservationRule 16 (.ifCond .ge 11) 3 19 (11) 27 := ⟨by decide +kernel, rfl, by decide, by decide⟩
theorem o_runReservationRule_19 : InsA md_runReservationRule 19 (.aload_n 0) 1 20 := ⟨by decide +kernel, rfl⟩
theorem o_runReservationRule_20 : InsA md_runReservationRule 20 (.aload_n 0) 1 21 := ⟨by decide +kernel, rfl⟩
theorem o_runReservationRule_21 : InsA md_runReservationRule 21 (.invokevirtual 181) 3 24 := ⟨by decide +kernel, rfl⟩
theorem o_runReservationRule_24 : InsA md_runReservationRule 24 (.putfield 79) 3 27 := ⟨by decide +kernel, rfl⟩
theorem o_runReservationRule_27 : InsA md_runReservationRule 27 (.return_) 1 28 := ⟨by decide +kernel, rfl⟩
abbrev md_reservationIsStale : MD := (⟨"DominantShare", "reservationIsStale", "()Z"⟩, prog_1_method_51_code, 2, some .boolean, { frames := 1, cells := 0, slots := 0, locals := 13 }, 0)
theorem cv_reservationIsStale {Z : State} {a0 : Array Value} (H : OK Z a0) : CalV Z a0 md_reservationIsStale 0 := ⟨pn_DominantShare, by decide, pd___Z, H.w 109 rfl, H.w 111 rfl, H.w 2 rfl, Or.inr ⟨H.w 110 rfl, 19, H.w 1 rfl⟩⟩
theorem o_reservationIsStale_0 : InsA md_reservationIsStale 0 (.aload_n 0) 1 1 := ⟨by decide +kernel, rfl⟩
theorem o_reservationIsStale_1 : InsA md_reservationIsStale 1 (.getfield 79) 3 4 := ⟨by decide +kernel, rfl⟩
theorem o_reservationIsStale_4 : InsB md_reservationIsStale 4 (.ifCond .ge 5) 3 7 (5) 9 := ⟨by decide +kernel, rfl, by decide, by decide⟩
theorem o_reservationIsStale_7 : InsA md_reservationIsStale 7 (.iconst 0) 1 8 := ⟨by decide +kernel, rfl⟩
theorem o_reservationIsStale_8 : InsA md_reservationIsStale 8 (.ireturn) 1 9 := ⟨by decide +kernel, rfl⟩
theorem o_reservationIsStale_9 : InsA md_reservationIsStale 9 (.aload_n 0) 1 10 := ⟨by decide +kernel, rfl⟩
theorem o_reservationIsStale_10 : InsA md_reservationIsStale 10 (.aload_n 0) 1 11 := ⟨by decide +kernel, rfl⟩
theorem o_reservationIsStale_11 : InsA md_reservationIsStale 11 (.getfield 79) 3 14 := ⟨by decide +kernel, rfl⟩
theorem o_reservationIsStale_14 : InsA md_reservationIsStale 14 (.invokevirtual 116) 3 17 := ⟨by decide +kernel, rfl⟩
theorem o_reservationIsStale_17 : InsB md_reservationIsStale 17 (.ifCond .ne 5) 3 20 (5) 22 := ⟨by decide +kernel, rfl, by decide, by decide⟩
theorem o_reservationIsStale_20 : InsA md_reservationIsStale 20 (.iconst 1) 1 21 := ⟨by decide +kernel, rfl⟩
theorem o_reservationIsStale_21 : InsA md_reservationIsStale 21 (.ireturn) 1 22 := ⟨by decide +kernel, rfl⟩
theorem o_reservationIsStale_22 : InsA md_reservationIsStale 22 (.aload_n 0) 1 23 := ⟨by decide +kernel, rfl⟩
theorem o_reservationIsStale_23 : InsA md_reservationIsStale 23 (.getfield 40) 3 26 := ⟨by decide +kernel, rfl⟩
theorem o_reservationIsStale_26 : InsA md_reservationIsStale 26 (.aload_n 0) 1 27 := ⟨by decide +kernel, rfl⟩
theorem o_reservationIsStale_27 : InsA md_reservationIsStale 27 (.getfield 79) 3 30 := ⟨by decide +kernel, rfl⟩
theorem o_reservationIsStale_30 : InsA md_reservationIsStale 30 (.iaload) 1 31 := ⟨by decide +kernel, rfl⟩
theorem o_reservationIsStale_31 : InsA md_reservationIsStale 31 (.iconst 1) 1 32 := ⟨by decide +kernel, rfl⟩
theorem o_reservationIsStale_32 : InsB md_reservationIsStale 32 (.if_icmp .eq 5) 3 35 (5) 37 := ⟨by decide +kernel, rfl, by decide, by decide⟩
theorem o_reservationIsStale_35 : InsA md_reservationIsStale 35 (.iconst 1) 1 36 := ⟨by decide +kernel, rfl⟩
theorem o_reservationIsStale_36 : InsA md_reservationIsStale 36 (.ireturn) 1 37 := ⟨by decide +kernel, rfl⟩
theorem o_reservationIsStale_37 : InsA md_reservationIsStale 37 (.aload_n 0) 1 38 := ⟨by decide +kernel, rfl⟩
theorem o_reservationIsStale_38 : InsA md_reservationIsStale 38 (.getfield 43) 3 41 := ⟨by decide +kernel, rfl⟩
theorem o_reservationIsStale_41 : InsA md_reservationIsStale 41 (.aload_n 0) 1 42 := ⟨by decide +kernel, rfl⟩
theorem o_reservationIsStale_42 : InsA md_reservationIsStale 42 (.getfield 79) 3 45 := ⟨by decide +kernel, rfl⟩
theorem o_reservationIsStale_45 : InsA md_reservationIsStale 45 (.iaload) 1 46 := ⟨by decide +kernel, rfl⟩
theorem o_reservationIsStale_46 : InsA md_reservationIsStale 46 (.istore_n 1) 1 47 := ⟨by decide +kernel, rfl⟩
theorem o_reservationIsStale_47 : InsA md_reservationIsStale 47 (.aload_n 0) 1 48 := ⟨by decide +kernel, rfl⟩
theorem o_reservationIsStale_48 : InsA md_reservationIsStale 48 (.iload_n 1) 1 49 := ⟨by decide +kernel, rfl⟩
theorem o_reservationIsStale_49 : InsA md_reservationIsStale 49 (.invokevirtual 82) 3 52 := ⟨by decide +kernel, rfl⟩
theorem o_reservationIsStale_52 : InsB md_reservationIsStale 52 (.ifCond .ne 5) 3 55 (5) 57 := ⟨by decide +kernel, rfl, by decide, by decide⟩
theorem o_reservationIsStale_55 : InsA md_reservationIsStale 55 (.iconst 1) 1 56 := ⟨by decide +kernel, rfl⟩
theorem o_reservationIsStale_56 : InsA md_reservationIsStale 56 (.ireturn) 1 57 := ⟨by decide +kernel, rfl⟩
theorem o_reservationIsStale_57 : InsA md_reservationIsStale 57 (.aload_n 0) 1 58 := ⟨by decide +kernel, rfl⟩
theorem o_reservationIsStale_58 : InsA md_reservationIsStale 58 (.getfield 31) 3 61 := ⟨by decide +kernel, rfl⟩
theorem o_reservationIsStale_61 : InsA md_reservationIsStale 61 (.iload_n 1) 1 62 := ⟨by decide +kernel, rfl⟩
theorem o_reservationIsStale_62 : InsA md_reservationIsStale 62 (.iaload) 1 63 := ⟨by decide +kernel, rfl⟩
theorem o_reservationIsStale_63 : InsA md_reservationIsStale 63 (.aload_n 0) 1 64 := ⟨by decide +kernel, rfl⟩
theorem o_reservationIsStale_64 : InsA md_reservationIsStale 64 (.getfield 79) 3 67 := ⟨by decide +kernel, rfl⟩
theorem o_reservationIsStale_67 : InsB md_reservationIsStale 67 (.if_icmp .eq 5) 3 70 (5) 72 := ⟨by decide +kernel, rfl, by decide, by decide⟩
theorem o_reservationIsStale_70 : InsA md_reservationIsStale 70 (.iconst 1) 1 71 := ⟨by decide +kernel, rfl⟩
theorem o_reservationIsStale_71 : InsA md_reservationIsStale 71 (.ireturn) 1 72 := ⟨by decide +kernel, rfl⟩
theorem o_reservationIsStale_72 : InsA md_reservationIsStale 72 (.aload_n 0) 1 73 := ⟨by decide +kernel, rfl⟩
theorem o_reservationIsStale_73 : InsA md_reservationIsStale 73 (.iload_n 1) 1 74 := ⟨by decide +kernel, rfl⟩
theorem o_reservationIsStale_74 : InsA md_reservationIsStale 74 (.invokevirtual 171) 3 77 := ⟨by decide +kernel, rfl⟩
theorem o_reservationIsStale_77 : InsB md_reservationIsStale 77 (.ifCond .ne 7) 3 80 (7) 84 := ⟨by decide +kernel, rfl, by decide, by decide⟩
theorem o_reservationIsStale_80 : InsA md_reservationIsStale 80 (.iconst 1) 1 81 := ⟨by decide +kernel, rfl⟩
theorem o_reservationIsStale_81 : InsB md_reservationIsStale 81 (.goto 4) 3 84 (4) 85 := ⟨by decide +kernel, rfl, by decide, by decide⟩
theorem o_reservationIsStale_84 : InsA md_reservationIsStale 84 (.iconst 0) 1 85 := ⟨by decide +kernel, rfl⟩
theorem o_reservationIsStale_85 : InsA md_reservationIsStale 85 (.ireturn) 1 86 := ⟨by decide +kernel, rfl⟩
abbrev md_chooseReservation : MD := (⟨"DominantShare", "chooseReservation", "()I"⟩, prog_1_method_52_code, 3, some .int, { frames := 3, cells := 0, slots := 0, locals := 50 }, 0)
theorem cv_chooseReservation {Z : State} {a0 : Array Value} (H : OK Z a0) : CalV Z a0 md_chooseReservation 0 := ⟨pn_DominantShare, by decide, pd___I, H.w 113 rfl, H.w 115 rfl, H.w 2 rfl, Or.inr ⟨H.w 114 rfl, 19, H.w 1 rfl⟩⟩
theorem o_chooseReservation_0 : InsA md_chooseReservation 0 (.aload_n 0) 1 1 := ⟨by decide +kernel, rfl⟩
theorem o_chooseReservation_1 : InsA md_chooseReservation 1 (.invokevirtual 184) 3 4 := ⟨by decide +kernel, rfl⟩
theorem o_chooseReservation_4 : InsA md_chooseReservation 4 (.istore_n 1) 1 5 := ⟨by decide +kernel, rfl⟩
theorem o_chooseReservation_5 : InsA md_chooseReservation 5 (.iload_n 1) 1 6 := ⟨by decide +kernel, rfl⟩
theorem o_chooseReservation_6 : InsB md_chooseReservation 6 (.ifCond .ge 5) 3 9 (5) 11 := ⟨by decide +kernel, rfl, by decide, by decide⟩
theorem o_chooseReservation_9 : InsA md_chooseReservation 9 (.iconst (-1)) 1 10 := ⟨by decide +kernel, rfl⟩
theorem o_chooseReservation_10 : InsA md_chooseReservation 10 (.ireturn) 1 11 := ⟨by decide +kernel, rfl⟩
theorem o_chooseReservation_11 : InsA md_chooseReservation 11 (.aload_n 0) 1 12 := ⟨by decide +kernel, rfl⟩
theorem o_chooseReservation_12 : InsA md_chooseReservation 12 (.getfield 31) 3 15 := ⟨by decide +kernel, rfl⟩
theorem o_chooseReservation_15 : InsA md_chooseReservation 15 (.iload_n 1) 1 16 := ⟨by decide +kernel, rfl⟩
theorem o_chooseReservation_16 : InsA md_chooseReservation 16 (.iaload) 1 17 := ⟨by decide +kernel, rfl⟩
theorem o_chooseReservation_17 : InsA md_chooseReservation 17 (.istore_n 2) 1 18 := ⟨by decide +kernel, rfl⟩
theorem o_chooseReservation_18 : InsA md_chooseReservation 18 (.aload_n 0) 1 19 := ⟨by decide +kernel, rfl⟩
theorem o_chooseReservation_19 : InsA md_chooseReservation 19 (.iload_n 2) 1 20 := ⟨by decide +kernel, rfl⟩
theorem o_chooseReservation_20 : InsA md_chooseReservation 20 (.invokevirtual 116) 3 23 := ⟨by decide +kernel, rfl⟩
theorem o_chooseReservation_23 : InsB md_chooseReservation 23 (.ifCond .ne 5) 3 26 (5) 28 := ⟨by decide +kernel, rfl, by decide, by decide⟩
theorem o_chooseReservation_26 : InsA md_chooseReservation 26 (.iconst (-1)) 1 27 := ⟨by decide +kernel, rfl⟩
theorem o_chooseReservation_27 : InsA md_chooseReservation 27 (.ireturn) 1 28 := ⟨by decide +kernel, rfl⟩
theorem o_chooseReservation_28 : InsA md_chooseReservation 28 (.aload_n 0) 1 29 := ⟨by decide +kernel, rfl⟩
theorem o_chooseReservation_29 : InsA md_chooseReservation 29 (.getfield 46) 3 32 := ⟨by decide +kernel, rfl⟩
theorem o_chooseReservation_32 : InsA md_chooseReservation 32 (.iload_n 2) 1 33 := ⟨by decide +kernel, rfl⟩
theorem o_chooseReservation_33 : InsA md_chooseReservation 33 (.iaload) 1 34 := ⟨by decide +kernel, rfl⟩
theorem o_chooseReservation_34 : InsA md_chooseReservation 34 (.iconst 2) 1 35 := ⟨by decide +kernel, rfl⟩
theorem o_chooseReservation_35 : InsB md_chooseReservation 35 (.if_icmp .ge 5) 3 38 (5) 40 := ⟨by decide +kernel, rfl, by decide, by decide⟩
theorem o_chooseReservation_38 : InsA md_chooseReservation 38 (.iconst (-1)) 1 39 := ⟨by decide +kernel, rfl⟩
theorem o_chooseReservation_39 : InsA md_chooseReservation 39 (.ireturn) 1 40 := ⟨by decide +kernel, rfl⟩
theorem o_chooseReservation_40 : InsA md_chooseReservation 40 (.aload_n 0) 1 41 := ⟨by decide +kernel, rfl⟩
theorem o_chooseReservation_41 : InsA md_chooseReservation 41 (.iload_n 2) 1 42 := ⟨by decide +kernel, rfl⟩
theorem o_chooseReservation_42 : InsA md_chooseReservation 42 (.invokevirtual 187) 3 45 := ⟨by decide +kernel, rfl⟩
abbrev md_leader : MD := (⟨"DominantShare", "leader", "()I"⟩, prog_1_method_48_code, 3, some .int, { frames := 2, cells := 0, slots := 0, locals := 36 }, 0)
theorem cv_leader {Z : State} {a0 : Array Value} (H : OK Z a0) : CalV Z a0 md_leader 0 := ⟨pn_DominantShare, by decide, pd___I, H.w 117 rfl, H.w 119 rfl, H.w 2 rfl, Or.inr ⟨H.w 118 rfl, 19, H.w 1 rfl⟩⟩
theorem o_leader_0 : InsA md_leader 0 (.iconst (-1)) 1 1 := ⟨by decide +kernel, rfl⟩
theorem o_leader_1 : InsA md_leader 1 (.istore_n 1) 1 2 := ⟨by decide +kernel, rfl⟩
theorem o_leader_2 : InsA md_leader 2 (.iconst 0) 1 3 := ⟨by decide +kernel, rfl⟩
theorem o_leader_3 : InsA md_leader 3 (.istore_n 2) 1 4 := ⟨by decide +kernel, rfl⟩
theorem o_leader_4 : InsA md_leader 4 (.iload_n 2) 1 5 := ⟨by decide +kernel, rfl⟩
theorem o_leader_5 : InsA md_leader 5 (.aload_n 0) 1 6 := ⟨by decide +kernel, rfl⟩
theorem o_leader_6 : InsA md_leader 6 (.getfield 61) 3 9 := ⟨by decide +kernel, rfl⟩
theorem o_leader_9 : InsB md_leader 9 (.if_icmp .ge 35) 3 12 (35) 44 := ⟨by decide +kernel, rfl, by decide, by decide⟩
theorem o_leader_12 : InsA md_leader 12 (.aload_n 0) 1 13 := ⟨by decide +kernel, rfl⟩
theorem o_leader_13 : InsA md_leader 13 (.iload_n 2) 1 14 := ⟨by decide +kernel, rfl⟩
theorem o_leader_14 : InsA md_leader 14 (.invokevirtual 171) 3 17 := ⟨by decide +kernel, rfl⟩
theorem o_leader_17 : InsB md_leader 17 (.ifCond .ne 6) 3 20 (6) 23 := ⟨by decide +kernel, rfl, by decide, by decide⟩
theorem o_leader_20 : InsB md_leader 20 (.goto 18) 3 23 (18) 38 := ⟨by decide +kernel, rfl, by decide, by decide⟩
theorem o_leader_23 : InsA md_leader 23 (.iload_n 1) 1 24 := ⟨by decide +kernel, rfl⟩
theorem o_leader_24 : InsB md_leader 24 (.ifCond .lt 12) 3 27 (12) 36 := ⟨by decide +kernel, rfl, by decide, by decide⟩
theorem o_leader_27 : InsA md_leader 27 (.aload_n 0) 1 28 := ⟨by decide +kernel, rfl⟩
theorem o_leader_28 : InsA md_leader 28 (.iload_n 2) 1 29 := ⟨by decide +kernel, rfl⟩
theorem o_leader_29 : InsA md_leader 29 (.iload_n 1) 1 30 := ⟨by decide +kernel, rfl⟩
theorem o_leader_30 : InsA md_leader 30 (.invokevirtual 148) 3 33 := ⟨by decide +kernel, rfl⟩
theorem o_leader_33 : InsB md_leader 33 (.ifCond .ge 5) 3 36 (5) 38 := ⟨by decide +kernel, rfl, by decide, by decide⟩
theorem o_leader_36 : InsA md_leader 36 (.iload_n 2) 1 37 := ⟨by decide +kernel, rfl⟩
theorem o_leader_37 : InsA md_leader 37 (.istore_n 1) 1 38 := ⟨by decide +kernel, rfl⟩
theorem o_leader_38 : InsA md_leader 38 (.iinc 2 1) 3 41 := ⟨by decide +kernel, rfl⟩
theorem o_leader_41 : InsB md_leader 41 (.goto (-37)) 3 44 (-37) 4 := ⟨by decide +kernel, rfl, by decide, by decide⟩
theorem o_leader_44 : InsA md_leader 44 (.iload_n 1) 1 45 := ⟨by decide +kernel, rfl⟩
theorem o_leader_45 : InsA md_leader 45 (.ireturn) 1 46 := ⟨by decide +kernel, rfl⟩
abbrev md_isActive : MD := (⟨"DominantShare", "isActive", "(I)Z"⟩, prog_1_method_42_code, 2, some .boolean, { frames := 0, cells := 0, slots := 0, locals := 0 }, 0)
theorem cv_isActive {Z : State} {a0 : Array Value} (H : OK Z a0) : CalV Z a0 md_isActive 1 := ⟨pn_DominantShare, by decide, pd__I_Z, H.w 121 rfl, H.w 123 rfl, H.w 2 rfl, Or.inr ⟨H.w 122 rfl, 19, H.w 1 rfl⟩⟩
theorem o_isActive_0 : InsA md_isActive 0 (.aload_n 0) 1 1 := ⟨by decide +kernel, rfl⟩
theorem o_isActive_1 : InsA md_isActive 1 (.getfield 28) 3 4 := ⟨by decide +kernel, rfl⟩
theorem o_isActive_4 : InsA md_isActive 4 (.iload_n 1) 1 5 := ⟨by decide +kernel, rfl⟩
theorem o_isActive_5 : InsA md_isActive 5 (.iaload) 1 6 := ⟨by decide +kernel, rfl⟩
theorem o_isActive_6 : InsB md_isActive 6 (.ifCond .le 22) 3 9 (22) 28 := ⟨by decide +kernel, rfl, by decide, by decide⟩
theorem o_isActive_9 : InsA md_isActive 9 (.aload_n 0) 1 10 := ⟨by decide +kernel, rfl⟩
theorem o_isActive_10 : InsA md_isActive 10 (.getfield 25) 3 13 := ⟨by decide +kernel, rfl⟩
theorem o_isActive_13 : InsA md_isActive 13 (.iload_n 1) 1 14 := ⟨by decide +kernel, rfl⟩
theorem o_isActive_14 : InsA md_isActive 14 (.iaload) 1 15 := ⟨by decide +kernel, rfl⟩
theorem o_isActive_15 : InsA md_isActive 15 (.aload_n 0) 1 16 := ⟨by decide +kernel, rfl⟩
theorem o_isActive_16 : InsA md_isActive 16 (.getfield 22) 3 19 := ⟨by decide +kernel, rfl⟩
theorem o_isActive_19 : InsA md_isActive 19 (.iload_n 1) 1 20 := ⟨by decide +kernel, rfl⟩
theorem o_isActive_20 : InsA md_isActive 20 (.iaload) 1 21 := ⟨by decide +kernel, rfl⟩
theorem o_isActive_21 : InsB md_isActive 21 (.if_icmp .ge 7) 3 24 (7) 28 := ⟨by decide +kernel, rfl, by decide, by decide⟩
theorem o_isActive_24 : InsA md_isActive 24 (.iconst 1) 1 25 := ⟨by decide +kernel, rfl⟩
theorem o_isActive_25 : InsB md_isActive 25 (.goto 4) 3 28 (4) 29 := ⟨by decide +kernel, rfl, by decide, by decide⟩
theorem o_isActive_28 : InsA md_isActive 28 (.iconst 0) 1 29 := ⟨by decide +kernel, rfl⟩
theorem o_isActive_29 : InsA md_isActive 29 (.ireturn) 1 30 := ⟨by decide +kernel, rfl⟩
abbrev md_isTask : MD := (⟨"DominantShare", "isTask", "(I)Z"⟩, prog_1_method_20_code, 2, some .boolean, { frames := 0, cells := 0, slots := 0, locals := 0 }, 0)
theorem cv_isTask {Z : State} {a0 : Array Value} (H : OK Z a0) : CalV Z a0 md_isTask 1 := ⟨pn_DominantShare, by decide, pd__I_Z, H.w 125 rfl, H.w 127 rfl, H.w 2 rfl, Or.inr ⟨H.w 126 rfl, 19, H.w 1 rfl⟩⟩
theorem o_isTask_0 : InsA md_isTask 0 (.iload_n 1) 1 1 := ⟨by decide +kernel, rfl⟩
theorem o_isTask_1 : InsB md_isTask 1 (.ifCond .lt 13) 3 4 (13) 14 := ⟨by decide +kernel, rfl, by decide, by decide⟩
theorem o_isTask_4 : InsA md_isTask 4 (.iload_n 1) 1 5 := ⟨by decide +kernel, rfl⟩
theorem o_isTask_5 : InsA md_isTask 5 (.bipush 32) 2 7 := ⟨by decide +kernel, rfl⟩
theorem o_isTask_7 : InsB md_isTask 7 (.if_icmp .ge 7) 3 10 (7) 14 := ⟨by decide +kernel, rfl, by decide, by decide⟩
theorem o_isTask_10 : InsA md_isTask 10 (.iconst 1) 1 11 := ⟨by decide +kernel, rfl⟩
theorem o_isTask_11 : InsB md_isTask 11 (.goto 4) 3 14 (4) 15 := ⟨by decide +kernel, rfl, by decide, by decide⟩
theorem o_isTask_14 : InsA md_isTask 14 (.iconst 0) 1 15 := ⟨by decide +kernel, rfl⟩
theorem o_isTask_15 : InsA md_isTask 15 (.ireturn) 1 16 := ⟨by decide +kernel, rfl⟩
abbrev md_compareUsers : MD := (⟨"DominantShare", "compareUsers", "(II)I"⟩, prog_1_method_41_code, 9, some .int, { frames := 1, cells := 0, slots := 0, locals := 16 }, 0)
theorem cv_compareUsers {Z : State} {a0 : Array Value} (H : OK Z a0) : CalV Z a0 md_compareUsers 2 := ⟨pn_DominantShare, by decide, pd__II_I, H.w 129 rfl, H.w 131 rfl, H.w 2 rfl, Or.inr ⟨H.w 130 rfl, 19, H.w 1 rfl⟩⟩
theorem o_compareUsers_0 : InsA md_compareUsers 0 (.aload_n 0) 1 1 := ⟨by decide +kernel, rfl⟩
theorem o_compareUsers_1 : InsA md_compareUsers 1 (.getfield 34) 3 4 := ⟨by decide +kernel, rfl⟩
theorem o_compareUsers_4 : InsA md_compareUsers 4 (.iload_n 1) 1 5 := ⟨by decide +kernel, rfl⟩
theorem o_compareUsers_5 : InsA md_compareUsers 5 (.iaload) 1 6 := ⟨by decide +kernel, rfl⟩
theorem o_compareUsers_6 : InsA md_compareUsers 6 (.istore_n 3) 1 7 := ⟨by decide +kernel, rfl⟩
theorem o_compareUsers_7 : InsA md_compareUsers 7 (.aload_n 0) 1 8 := ⟨by decide +kernel, rfl⟩
theorem o_compareUsers_8 : InsA md_compareUsers 8 (.getfield 34) 3 11 := ⟨by decide +kernel, rfl⟩
theorem o_compareUsers_11 : InsA md_compareUsers 11 (.iload_n 2) 1 12 := ⟨by decide +kernel, rfl⟩
theorem o_compareUsers_12 : InsA md_compareUsers 12 (.iaload) 1 13 := ⟨by decide +kernel, rfl⟩
theorem o_compareUsers_13 : InsA md_compareUsers 13 (.istore 4) 2 15 := ⟨by decide +kernel, rfl⟩
theorem o_compareUsers_15 : InsA md_compareUsers 15 (.aload_n 0) 1 16 := ⟨by decide +kernel, rfl⟩
theorem o_compareUsers_16 : InsA md_compareUsers 16 (.getfield 37) 3 19 := ⟨by decide +kernel, rfl⟩
theorem o_compareUsers_19 : InsA md_compareUsers 19 (.aload_n 0) 1 20 := ⟨by decide +kernel, rfl⟩
theorem o_compareUsers_20 : InsA md_compareUsers 20 (.iload_n 1) 1 21 := ⟨by decide +kernel, rfl⟩
theorem o_compareUsers_21 : InsA md_compareUsers 21 (.iload_n 3) 1 22 := ⟨by decide +kernel, rfl⟩
theorem o_compareUsers_22 : InsA md_compareUsers 22 (.invokevirtual 144) 3 25 := ⟨by decide +kernel, rfl⟩
theorem o_compareUsers_25 : InsA md_compareUsers 25 (.iaload) 1 26 := ⟨by decide +kernel, rfl⟩
theorem o_compareUsers_26 : InsA md_compareUsers 26 (.i2l) 1 27 := ⟨by decide +kernel, rfl⟩
theorem o_compareUsers_27 : InsA md_compareUsers 27 (.aload_n 0) 1 28 := ⟨by decide +kernel, rfl⟩
theorem o_compareUsers_28 : InsA md_compareUsers 28 (.getfield 7) 3 31 := ⟨by decide +kernel, rfl⟩
theorem o_compareUsers_31 : InsA md_compareUsers 31 (.iload 4) 2 33 := ⟨by decide +kernel, rfl⟩
theorem o_compareUsers_33 : InsA md_compareUsers 33 (.iaload) 1 34 := ⟨by decide +kernel, rfl⟩
theorem o_compareUsers_34 : InsA md_compareUsers 34 (.i2l) 1 35 := ⟨by decide +kernel, rfl⟩
theorem o_compareUsers_35 : InsA md_compareUsers 35 (.lmul) 1 36 := ⟨by decide +kernel, rfl⟩
theorem o_compareUsers_36 : InsA md_compareUsers 36 (.aload_n 0) 1 37 := ⟨by decide +kernel, rfl⟩
theorem o_compareUsers_37 : InsA md_compareUsers 37 (.getfield 19) 3 40 := ⟨by decide +kernel, rfl⟩
theorem o_compareUsers_40 : InsA md_compareUsers 40 (.iload_n 2) 1 41 := ⟨by decide +kernel, rfl⟩
theorem o_compareUsers_41 : InsA md_compareUsers 41 (.iaload) 1 42 := ⟨by decide +kernel, rfl⟩
theorem o_compareUsers_42 : InsA md_compareUsers 42 (.i2l) 1 43 := ⟨by decide +kernel, rfl⟩
theorem o_compareUsers_43 : InsA md_compareUsers 43 (.lmul) 1 44 := ⟨by decide +kernel, rfl⟩
theorem o_compareUsers_44 : InsA md_compareUsers 44 (.lstore 5) 2 46 := ⟨by decide +kernel, rfl⟩
theorem o_compareUsers_46 : InsA md_compareUsers 46 (.aload_n 0) 1 47 := ⟨by decide +kernel, rfl⟩
theorem o_compareUsers_47 : InsA md_compareUsers 47 (.getfield 37) 3 50 := ⟨by decide +kernel, rfl⟩
theorem o_compareUsers_50 : InsA md_compareUsers 50 (.aload_n 0) 1 51 := ⟨by decide +kernel, rfl⟩
theorem o_compareUsers_51 : InsA md_compareUsers 51 (.iload_n 2) 1 52 := ⟨by decide +kernel, rfl⟩
theorem o_compareUsers_52 : InsA md_compareUsers 52 (.iload 4) 2 54 := ⟨by decide +kernel, rfl⟩
theorem o_compareUsers_54 : InsA md_compareUsers 54 (.invokevirtual 144) 3 57 := ⟨by decide +kernel, rfl⟩
theorem o_compareUsers_57 : InsA md_compareUsers 57 (.iaload) 1 58 := ⟨by decide +kernel, rfl⟩
theorem o_compareUsers_58 : InsA md_compareUsers 58 (.i2l) 1 59 := ⟨by decide +kernel, rfl⟩
theorem o_compareUsers_59 : InsA md_compareUsers 59 (.aload_n 0) 1 60 := ⟨by decide +kernel, rfl⟩
theorem o_compareUsers_60 : InsA md_compareUsers 60 (.getfield 7) 3 63 := ⟨by decide +kernel, rfl⟩
theorem o_compareUsers_63 : InsA md_compareUsers 63 (.iload_n 3) 1 64 := ⟨by decide +kernel, rfl⟩
theorem o_compareUsers_64 : InsA md_compareUsers 64 (.iaload) 1 65 := ⟨by decide +kernel, rfl⟩
theorem o_compareUsers_65 : InsA md_compareUsers 65 (.i2l) 1 66 := ⟨by decide +kernel, rfl⟩
theorem o_compareUsers_66 : InsA md_compareUsers 66 (.lmul) 1 67 := ⟨by decide +kernel, rfl⟩
theorem o_compareUsers_67 : InsA md_compareUsers 67 (.aload_n 0) 1 68 := ⟨by decide +kernel, rfl⟩
theorem o_compareUsers_68 : InsA md_compareUsers 68 (.getfield 19) 3 71 := ⟨by decide +kernel, rfl⟩
theorem o_compareUsers_71 : InsA md_compareUsers 71 (.iload_n 1) 1 72 := ⟨by decide +kernel, rfl⟩
theorem o_compareUsers_72 : InsA md_compareUsers 72 (.iaload) 1 73 := ⟨by decide +kernel, rfl⟩
theorem o_compareUsers_73 : InsA md_compareUsers 73 (.i2l) 1 74 := ⟨by decide +kernel, rfl⟩
theorem o_compareUsers_74 : InsA md_compareUsers 74 (.lmul) 1 75 := ⟨by decide +kernel, rfl⟩
theorem o_compareUsers_75 : InsA md_compareUsers 75 (.lstore 7) 2 77 := ⟨by decide +kernel, rfl⟩
theorem o_compareUsers_77 : InsA md_compareUsers 77 (.aload_n 0) 1 78 := ⟨by decide +kernel, rfl⟩
theorem o_compareUsers_78 : InsA md_compareUsers 78 (.lload 5) 2 80 := ⟨by decide +kernel, rfl⟩
theorem o_compareUsers_80 : InsA md_compareUsers 80 (.lload 7) 2 82 := ⟨by decide +kernel, rfl⟩
theorem o_compareUsers_82 : InsA md_compareUsers 82 (.invokevirtual 160) 3 85 := ⟨by decide +kernel, rfl⟩
theorem o_compareUsers_85 : InsA md_compareUsers 85 (.ireturn) 1 86 := ⟨by decide +kernel, rfl⟩
abbrev md_compareLong : MD := (⟨"DominantShare", "compareLong", "(JJ)I"⟩, prog_1_method_27_code, 5, some .int, { frames := 0, cells := 0, slots := 0, locals := 0 }, 0)
theorem al_compareLong (x0 : Int64) (x1 : Int64) : (argsToLocals [.ref 0, .long x0, .long x1].toArray (mxOf md_compareLong)).toList = [.val (.ref 0), .val (.long x0), .second, .val (.long x1), .second] := (Jvm.Sym.argsToLocals_toList _ _).trans rfl
theorem cv_compareLong {Z : State} {a0 : Array Value} (H : OK Z a0) : CalV Z a0 md_compareLong 2 := ⟨pn_DominantShare, by decide, pd__JJ_I, H.w 133 rfl, H.w 135 rfl, H.w 2 rfl, Or.inr ⟨H.w 134 rfl, 19, H.w 1 rfl⟩⟩
theorem o_compareLong_0 : InsA md_compareLong 0 (.lload_n 1) 1 1 := ⟨by decide +kernel, rfl⟩
theorem o_compareLong_1 : InsA md_compareLong 1 (.lload_n 3) 1 2 := ⟨by decide +kernel, rfl⟩
theorem o_compareLong_2 : InsA md_compareLong 2 (.lcmp) 1 3 := ⟨by decide +kernel, rfl⟩
theorem o_compareLong_3 : InsB md_compareLong 3 (.ifCond .ge 5) 3 6 (5) 8 := ⟨by decide +kernel, rfl, by decide, by decide⟩
theorem o_compareLong_6 : InsA md_compareLong 6 (.iconst (-1)) 1 7 := ⟨by decide +kernel, rfl⟩
theorem o_compareLong_7 : InsA md_compareLong 7 (.ireturn) 1 8 := ⟨by decide +kernel, rfl⟩
theorem o_compareLong_8 : InsA md_compareLong 8 (.lload_n 1) 1 9 := ⟨by decide +kernel, rfl⟩
theorem o_compareLong_9 : InsA md_compareLong 9 (.lload_n 3) 1 10 := ⟨by decide +kernel, rfl⟩
theorem o_compareLong_10 : InsA md_compareLong 10 (.lcmp) 1 11 := ⟨by decide +kernel, rfl⟩
theorem o_compareLong_11 : InsB md_compareLong 11 (.ifCond .le 5) 3 14 (5) 16 := ⟨by decide +kernel, rfl, by decide, by decide⟩
theorem o_compareLong_14 : InsA md_compareLong 14 (.iconst 1) 1 15 := ⟨by decide +kernel, rfl⟩
theorem o_compareLong_15 : InsA md_compareLong 15 (.ireturn) 1 16 := ⟨by decide +kernel, rfl⟩
theorem o_compareLong_16 : InsA md_compareLong 16 (.iconst 0) 1 17 := ⟨by decide +kernel, rfl⟩
theorem o_compareLong_17 : InsA md_compareLong 17 (.ireturn) 1 18 := ⟨by decide +kernel, rfl⟩
abbrev md_L_dom : MD := (⟨"DominantShareL3", "dom", "(JJJJ)J"⟩, method_3_code, 12, some .long, { frames := 0, cells := 0, slots := 0, locals := 0 }, 0)
theorem al_L_dom (x0 : Int64) (x1 : Int64) (x2 : Int64) (x3 : Int64) : (argsToLocals [.long x0, .long x1, .long x2, .long x3].toArray (mxOf md_L_dom)).toList = [.val (.long x0), .second, .val (.long x1), .second, .val (.long x2), .second, .val (.long x3), .second, .unset, .unset, .unset, .unset] := (Jvm.Sym.argsToLocals_toList _ _).trans rfl
theorem cv_L_dom {Z : State} {a0 : Array Value} (H : OK Z a0) : CalS Z a0 md_L_dom 4 := ⟨pn_DominantShareL3, by decide, pd__JJJJ_J, H.w 137 rfl, H.w 139 rfl, H.w 138 rfl⟩
theorem o_L_dom_0 : InsA md_L_dom 0 (.lload_n 0) 1 1 := ⟨by decide +kernel, rfl⟩
theorem o_L_dom_1 : InsA md_L_dom 1 (.lload 6) 2 3 := ⟨by decide +kernel, rfl⟩
theorem o_L_dom_3 : InsA md_L_dom 3 (.lmul) 1 4 := ⟨by decide +kernel, rfl⟩
theorem o_L_dom_4 : InsA md_L_dom 4 (.lstore 8) 2 6 := ⟨by decide +kernel, rfl⟩
theorem o_L_dom_6 : InsA md_L_dom 6 (.lload_n 2) 1 7 := ⟨by decide +kernel, rfl⟩
theorem o_L_dom_7 : InsA md_L_dom 7 (.lload 4) 2 9 := ⟨by decide +kernel, rfl⟩
theorem o_L_dom_9 : InsA md_L_dom 9 (.lmul) 1 10 := ⟨by decide +kernel, rfl⟩
theorem o_L_dom_10 : InsA md_L_dom 10 (.lstore 10) 2 12 := ⟨by decide +kernel, rfl⟩
theorem o_L_dom_12 : InsA md_L_dom 12 (.lload 8) 2 14 := ⟨by decide +kernel, rfl⟩
theorem o_L_dom_14 : InsA md_L_dom 14 (.lload 10) 2 16 := ⟨by decide +kernel, rfl⟩
theorem o_L_dom_16 : InsA md_L_dom 16 (.lcmp) 1 17 := ⟨by decide +kernel, rfl⟩
theorem o_L_dom_17 : InsB md_L_dom 17 (.ifCond .le 8) 3 20 (8) 25 := ⟨by decide +kernel, rfl, by decide, by decide⟩
theorem o_L_dom_20 : InsA md_L_dom 20 (.lload 8) 2 22 := ⟨by decide +kernel, rfl⟩
theorem o_L_dom_22 : InsB md_L_dom 22 (.goto 5) 3 25 (5) 27 := ⟨by decide +kernel, rfl, by decide, by decide⟩
theorem o_L_dom_25 : InsA md_L_dom 25 (.lload 10) 2 27 := ⟨by decide +kernel, rfl⟩
theorem o_L_dom_27 : InsA md_L_dom 27 (.lreturn) 1 28 := ⟨by decide +kernel, rfl⟩
abbrev md_step : MD := (⟨"DominantShare", "step", "()I"⟩, prog_1_method_8_code, 3, some .int, { frames := 5, cells := 0, slots := 0, locals := 77 }, 0)
theorem cv_step {Z : State} {a0 : Array Value} (H : OK Z a0) : CalV Z a0 md_step 0 := ⟨pn_DominantShare, by decide, pd___I, H.w 142 rfl, H.w 144 rfl, H.w 2 rfl, Or.inl ⟨H.w 141 rfl, H.w 143 rfl⟩⟩
theorem o_step_0 : InsA md_step 0 (.aload_n 0) 1 1 := ⟨by decide +kernel, rfl⟩
theorem o_step_1 : InsA md_step 1 (.invokevirtual 132) 3 4 := ⟨by decide +kernel, rfl⟩
theorem o_step_4 : InsA md_step 4 (.istore_n 1) 1 5 := ⟨by decide +kernel, rfl⟩
theorem o_step_5 : InsA md_step 5 (.iload_n 1) 1 6 := ⟨by decide +kernel, rfl⟩
theorem o_step_6 : InsB md_step 6 (.ifCond .ge 5) 3 9 (5) 11 := ⟨by decide +kernel, rfl, by decide, by decide⟩
theorem o_step_9 : InsA md_step 9 (.iconst (-1)) 1 10 := ⟨by decide +kernel, rfl⟩
theorem o_step_10 : InsA md_step 10 (.ireturn) 1 11 := ⟨by decide +kernel, rfl⟩
theorem o_step_11 : InsA md_step 11 (.aload_n 0) 1 12 := ⟨by decide +kernel, rfl⟩
theorem o_step_12 : InsA md_step 12 (.getfield 31) 3 15 := ⟨by decide +kernel, rfl⟩
theorem o_step_15 : InsA md_step 15 (.iload_n 1) 1 16 := ⟨by decide +kernel, rfl⟩
theorem o_step_16 : InsA md_step 16 (.iaload) 1 17 := ⟨by decide +kernel, rfl⟩
theorem o_step_17 : InsA md_step 17 (.istore_n 2) 1 18 := ⟨by decide +kernel, rfl⟩
theorem o_step_18 : InsA md_step 18 (.aload_n 0) 1 19 := ⟨by decide +kernel, rfl⟩
theorem o_step_19 : InsA md_step 19 (.iload_n 2) 1 20 := ⟨by decide +kernel, rfl⟩
theorem o_step_20 : InsA md_step 20 (.invokevirtual 116) 3 23 := ⟨by decide +kernel, rfl⟩
theorem o_step_23 : InsB md_step 23 (.ifCond .ne 5) 3 26 (5) 28 := ⟨by decide +kernel, rfl, by decide, by decide⟩
theorem o_step_26 : InsA md_step 26 (.iconst (-1)) 1 27 := ⟨by decide +kernel, rfl⟩
theorem o_step_27 : InsA md_step 27 (.ireturn) 1 28 := ⟨by decide +kernel, rfl⟩
theorem o_step_28 : InsA md_step 28 (.aload_n 0) 1 29 := ⟨by decide +kernel, rfl⟩
theorem o_step_29 : InsA md_step 29 (.iload_n 2) 1 30 := ⟨by decide +kernel, rfl⟩
theorem o_step_30 : InsA md_step 30 (.invokevirtual 135) 3 33 := ⟨by decide +kernel, rfl⟩
theorem o_step_33 : InsA md_step 33 (.aload_n 0) 1 34 := ⟨by decide +kernel, rfl⟩
theorem o_step_34 : InsA md_step 34 (.invokevirtual 89) 3 37 := ⟨by decide +kernel, rfl⟩
theorem o_step_37 : InsA md_step 37 (.iload_n 2) 1 38 := ⟨by decide +kernel, rfl⟩
theorem o_step_38 : InsA md_step 38 (.ireturn) 1 39 := ⟨by decide +kernel, rfl⟩
abbrev md_bestFittingUser : MD := (⟨"DominantShare", "bestFittingUser", "()I"⟩, prog_1_method_49_code, 3, some .int, { frames := 4, cells := 0, slots := 0, locals := 61 }, 0)
theorem cv_bestFittingUser {Z : State} {a0 : Array Value} (H : OK Z a0) : CalV Z a0 md_bestFittingUser 0 := ⟨pn_DominantShare, by decide, pd___I, H.w 146 rfl, H.w 148 rfl, H.w 2 rfl, Or.inr ⟨H.w 147 rfl, 19, H.w 1 rfl⟩⟩
theorem o_bestFittingUser_0 : InsA md_bestFittingUser 0 (.iconst (-1)) 1 1 := ⟨by decide +kernel, rfl⟩
theorem o_bestFittingUser_1 : InsA md_bestFittingUser 1 (.istore_n 1) 1 2 := ⟨by decide +kernel, rfl⟩
theorem o_bestFittingUser_2 : InsA md_bestFittingUser 2 (.iconst 0) 1 3 := ⟨by decide +kernel, rfl⟩
theorem o_bestFittingUser_3 : InsA md_bestFittingUser 3 (.istore_n 2) 1 4 := ⟨by decide +kernel, rfl⟩
theorem o_bestFittingUser_4 : InsA md_bestFittingUser 4 (.iload_n 2) 1 5 := ⟨by decide +kernel, rfl⟩
theorem o_bestFittingUser_5 : InsA md_bestFittingUser 5 (.aload_n 0) 1 6 := ⟨by decide +kernel, rfl⟩
theorem o_bestFittingUser_6 : InsA md_bestFittingUser 6 (.getfield 61) 3 9 := ⟨by decide +kernel, rfl⟩
theorem o_bestFittingUser_9 : InsB md_bestFittingUser 9 (.if_icmp .ge 35) 3 12 (35) 44 := ⟨by decide +kernel, rfl, by decide, by decide⟩
theorem o_bestFittingUser_12 : InsA md_bestFittingUser 12 (.aload_n 0) 1 13 := ⟨by decide +kernel, rfl⟩
theorem o_bestFittingUser_13 : InsA md_bestFittingUser 13 (.iload_n 2) 1 14 := ⟨by decide +kernel, rfl⟩
theorem o_bestFittingUser_14 : InsA md_bestFittingUser 14 (.invokevirtual 151) 3 17 := ⟨by decide +kernel, rfl⟩
theorem o_bestFittingUser_17 : InsB md_bestFittingUser 17 (.ifCond .ne 6) 3 20 (6) 23 := ⟨by decide +kernel, rfl, by decide, by decide⟩
theorem o_bestFittingUser_20 : InsB md_bestFittingUser 20 (.goto 18) 3 23 (18) 38 := ⟨by decide +kernel, rfl, by decide, by decide⟩
theorem o_bestFittingUser_23 : InsA md_bestFittingUser 23 (.iload_n 1) 1 24 := ⟨by decide +kernel, rfl⟩
theorem o_bestFittingUser_24 : InsB md_bestFittingUser 24 (.ifCond .lt 12) 3 27 (12) 36 := ⟨by decide +kernel, rfl, by decide, by decide⟩
theorem o_bestFittingUser_27 : InsA md_bestFittingUser 27 (.aload_n 0) 1 28 := ⟨by decide +kernel, rfl⟩
theorem o_bestFittingUser_28 : InsA md_bestFittingUser 28 (.iload_n 2) 1 29 := ⟨by decide +kernel, rfl⟩
theorem o_bestFittingUser_29 : InsA md_bestFittingUser 29 (.iload_n 1) 1 30 := ⟨by decide +kernel, rfl⟩
theorem o_bestFittingUser_30 : InsA md_bestFittingUser 30 (.invokevirtual 148) 3 33 := ⟨by decide +kernel, rfl⟩
theorem o_bestFittingUser_33 : InsB md_bestFittingUser 33 (.ifCond .ge 5) 3 36 (5) 38 := ⟨by decide +kernel, rfl, by decide, by decide⟩
theorem o_bestFittingUser_36 : InsA md_bestFittingUser 36 (.iload_n 2) 1 37 := ⟨by decide +kernel, rfl⟩
theorem o_bestFittingUser_37 : InsA md_bestFittingUser 37 (.istore_n 1) 1 38 := ⟨by decide +kernel, rfl⟩
theorem o_bestFittingUser_38 : InsA md_bestFittingUser 38 (.iinc 2 1) 3 41 := ⟨by decide +kernel, rfl⟩
theorem o_bestFittingUser_41 : InsB md_bestFittingUser 41 (.goto (-37)) 3 44 (-37) 4 := ⟨by decide +kernel, rfl, by decide, by decide⟩
theorem o_bestFittingUser_44 : InsA md_bestFittingUser 44 (.iload_n 1) 1 45 := ⟨by decide +kernel, rfl⟩
theorem o_bestFittingUser_45 : InsA md_bestFittingUser 45 (.ireturn) 1 46 := ⟨by decide +kernel, rfl⟩
abbrev md_fitsUser : MD := (⟨"DominantShare", "fitsUser", "(I)Z"⟩, prog_1_method_46_code, 3, some .boolean, { frames := 3, cells := 0, slots := 0, locals := 47 }, 0)
theorem cv_fitsUser {Z : State} {a0 : Array Value} (H : OK Z a0) : CalV Z a0 md_fitsUser 1 := ⟨pn_DominantShare, by decide, pd__I_Z, H.w 150 rfl, H.w 152 rfl, H.w 2 rfl, Or.inr ⟨H.w 151 rfl, 19, H.w 1 rfl⟩⟩
theorem o_fitsUser_0 : InsA md_fitsUser 0 (.aload_n 0) 1 1 := ⟨by decide +kernel, rfl⟩
theorem o_fitsUser_1 : InsA md_fitsUser 1 (.iload_n 1) 1 2 := ⟨by decide +kernel, rfl⟩
theorem o_fitsUser_2 : InsA md_fitsUser 2 (.invokevirtual 171) 3 5 := ⟨by decide +kernel, rfl⟩
theorem o_fitsUser_5 : InsB md_fitsUser 5 (.ifCond .ne 5) 3 8 (5) 10 := ⟨by decide +kernel, rfl, by decide, by decide⟩
theorem o_fitsUser_8 : InsA md_fitsUser 8 (.iconst 0) 1 9 := ⟨by decide +kernel, rfl⟩
theorem o_fitsUser_9 : InsA md_fitsUser 9 (.ireturn) 1 10 := ⟨by decide +kernel, rfl⟩
theorem o_fitsUser_10 : InsA md_fitsUser 10 (.aload_n 0) 1 11 := ⟨by decide +kernel, rfl⟩
theorem o_fitsUser_11 : InsA md_fitsUser 11 (.getfield 31) 3 14 := ⟨by decide +kernel, rfl⟩
theorem o_fitsUser_14 : InsA md_fitsUser 14 (.iload_n 1) 1 15 := ⟨by decide +kernel, rfl⟩
theorem o_fitsUser_15 : InsA md_fitsUser 15 (.iaload) 1 16 := ⟨by decide +kernel, rfl⟩
theorem o_fitsUser_16 : InsA md_fitsUser 16 (.istore_n 2) 1 17 := ⟨by decide +kernel, rfl⟩
theorem o_fitsUser_17 : InsA md_fitsUser 17 (.aload_n 0) 1 18 := ⟨by decide +kernel, rfl⟩
theorem o_fitsUser_18 : InsA md_fitsUser 18 (.iload_n 2) 1 19 := ⟨by decide +kernel, rfl⟩
theorem o_fitsUser_19 : InsA md_fitsUser 19 (.invokevirtual 116) 3 22 := ⟨by decide +kernel, rfl⟩
theorem o_fitsUser_22 : InsB md_fitsUser 22 (.ifCond .ne 5) 3 25 (5) 27 := ⟨by decide +kernel, rfl, by decide, by decide⟩
theorem o_fitsUser_25 : InsA md_fitsUser 25 (.iconst 0) 1 26 := ⟨by decide +kernel, rfl⟩
theorem o_fitsUser_26 : InsA md_fitsUser 26 (.ireturn) 1 27 := ⟨by decide +kernel, rfl⟩
theorem o_fitsUser_27 : InsA md_fitsUser 27 (.aload_n 0) 1 28 := ⟨by decide +kernel, rfl⟩
theorem o_fitsUser_28 : InsA md_fitsUser 28 (.iload_n 1) 1 29 := ⟨by decide +kernel, rfl⟩
theorem o_fitsUser_29 : InsA md_fitsUser 29 (.iload_n 2) 1 30 := ⟨by decide +kernel, rfl⟩
theorem o_fitsUser_30 : InsA md_fitsUser 30 (.invokevirtual 174) 3 33 := ⟨by decide +kernel, rfl⟩
theorem o_fitsUser_33 : InsA md_fitsUser 33 (.ireturn) 1 34 := ⟨by decide +kernel, rfl⟩
abbrev md_headFits : MD := (⟨"DominantShare", "headFits", "(II)Z"⟩, prog_1_method_45_code, 5, some .boolean, { frames := 2, cells := 0, slots := 0, locals := 31 }, 0)
theorem cv_headFits {Z : State} {a0 : Array Value} (H : OK Z a0) : CalV Z a0 md_headFits 2 := ⟨pn_DominantShare, by decide, pd__II_Z, H.w 154 rfl, H.w 156 rfl, H.w 2 rfl, Or.inr ⟨H.w 155 rfl, 19, H.w 1 rfl⟩⟩
theorem o_headFits_0 : InsA md_headFits 0 (.iconst 0) 1 1 := ⟨by decide +kernel, rfl⟩
theorem o_headFits_1 : InsA md_headFits 1 (.istore_n 3) 1 2 := ⟨by decide +kernel, rfl⟩
theorem o_headFits_2 : InsA md_headFits 2 (.iload_n 3) 1 3 := ⟨by decide +kernel, rfl⟩
theorem o_headFits_3 : InsA md_headFits 3 (.iconst 3) 1 4 := ⟨by decide +kernel, rfl⟩
theorem o_headFits_4 : InsB md_headFits 4 (.if_icmp .ge 35) 3 7 (35) 39 := ⟨by decide +kernel, rfl, by decide, by decide⟩
theorem o_headFits_7 : InsA md_headFits 7 (.aload_n 0) 1 8 := ⟨by decide +kernel, rfl⟩
theorem o_headFits_8 : InsA md_headFits 8 (.iload_n 2) 1 9 := ⟨by decide +kernel, rfl⟩
theorem o_headFits_9 : InsA md_headFits 9 (.iload_n 3) 1 10 := ⟨by decide +kernel, rfl⟩
theorem o_headFits_10 : InsA md_headFits 10 (.invokevirtual 157) 3 13 := ⟨by decide +kernel, rfl⟩
theorem o_headFits_13 : InsA md_headFits 13 (.istore 4) 2 15 := ⟨by decide +kernel, rfl⟩
theorem o_headFits_15 : InsA md_headFits 15 (.iload 4) 2 17 := ⟨by decide +kernel, rfl⟩
theorem o_headFits_17 : InsB md_headFits 17 (.ifCond .eq 16) 3 20 (16) 33 := ⟨by decide +kernel, rfl, by decide, by decide⟩
theorem o_headFits_20 : InsA md_headFits 20 (.iload 4) 2 22 := ⟨by decide +kernel, rfl⟩
theorem o_headFits_22 : InsA md_headFits 22 (.aload_n 0) 1 23 := ⟨by decide +kernel, rfl⟩
theorem o_headFits_23 : InsA md_headFits 23 (.iload_n 1) 1 24 := ⟨by decide +kernel, rfl⟩
theorem o_headFits_24 : InsA md_headFits 24 (.iload_n 3) 1 25 := ⟨by decide +kernel, rfl⟩
theorem o_headFits_25 : InsA md_headFits 25 (.invokevirtual 168) 3 28 := ⟨by decide +kernel, rfl⟩
theorem o_headFits_28 : InsB md_headFits 28 (.if_icmp .le 5) 3 31 (5) 33 := ⟨by decide +kernel, rfl, by decide, by decide⟩
theorem o_headFits_31 : InsA md_headFits 31 (.iconst 0) 1 32 := ⟨by decide +kernel, rfl⟩
theorem o_headFits_32 : InsA md_headFits 32 (.ireturn) 1 33 := ⟨by decide +kernel, rfl⟩
theorem o_headFits_33 : InsA md_headFits 33 (.iinc 3 1) 3 36 := ⟨by decide +kernel, rfl⟩
theorem o_headFits_36 : InsB md_headFits 36 (.goto (-34)) 3 39 (-34) 2 := ⟨by decide +kernel, rfl, by decide, by decide⟩
theorem o_headFits_39 : InsA md_headFits 39 (.iconst 1) 1 40 := ⟨by decide +kernel, rfl⟩
theorem o_headFits_40 : InsA md_headFits 40 (.ireturn) 1 41 := ⟨by decide +kernel, rfl⟩
abbrev md_needOf : MD := (⟨"DominantShare", "needOf", "(II)I"⟩, prog_1_method_28_code, 3, some .int, { frames := 0, cells := 0, slots := 0, locals := 0 }, 0)
theorem cv_needOf {Z : State} {a0 : Array Value} (H : OK Z a0) : CalV Z a0 md_needOf 2 := ⟨pn_DominantShare, by decide, pd__II_I, H.w 158 rfl, H.w 160 rfl, H.w 2 rfl, Or.inr ⟨H.w 159 rfl, 19, H.w 1 rfl⟩⟩
theorem o_needOf_0 : InsA md_needOf 0 (.aload_n 0) 1 1 := ⟨by decide +kernel, rfl⟩
theorem o_needOf_1 : InsA md_needOf 1 (.getfield 46) 3 4 := ⟨by decide +kernel, rfl⟩
theorem o_needOf_4 : InsA md_needOf 4 (.iload_n 1) 1 5 := ⟨by decide +kernel, rfl⟩
theorem o_needOf_5 : InsA md_needOf 5 (.iaload) 1 6 := ⟨by decide +kernel, rfl⟩
theorem o_needOf_6 : InsA md_needOf 6 (.aload_n 0) 1 7 := ⟨by decide +kernel, rfl⟩
theorem o_needOf_7 : InsA md_needOf 7 (.getfield 49) 3 10 := ⟨by decide +kernel, rfl⟩
theorem o_needOf_10 : InsA md_needOf 10 (.iload_n 1) 1 11 := ⟨by decide +kernel, rfl⟩
theorem o_needOf_11 : InsA md_needOf 11 (.iconst 3) 1 12 := ⟨by decide +kernel, rfl⟩
theorem o_needOf_12 : InsA md_needOf 12 (.imul) 1 13 := ⟨by decide +kernel, rfl⟩
theorem o_needOf_13 : InsA md_needOf 13 (.iload_n 2) 1 14 := ⟨by decide +kernel, rfl⟩
theorem o_needOf_14 : InsA md_needOf 14 (.iadd) 1 15 := ⟨by decide +kernel, rfl⟩
theorem o_needOf_15 : InsA md_needOf 15 (.iaload) 1 16 := ⟨by decide +kernel, rfl⟩
theorem o_needOf_16 : InsA md_needOf 16 (.imul) 1 17 := ⟨by decide +kernel, rfl⟩
theorem o_needOf_17 : InsA md_needOf 17 (.ireturn) 1 18 := ⟨by decide +kernel, rfl⟩
abbrev md_availableFor : MD := (⟨"DominantShare", "availableFor", "(II)I"⟩, prog_1_method_44_code, 4, some .int, { frames := 1, cells := 0, slots := 0, locals := 15 }, 0)
theorem cv_availableFor {Z : State} {a0 : Array Value} (H : OK Z a0) : CalV Z a0 md_availableFor 2 := ⟨pn_DominantShare, by decide, pd__II_I, H.w 162 rfl, H.w 164 rfl, H.w 2 rfl, Or.inr ⟨H.w 163 rfl, 19, H.w 1 rfl⟩⟩
theorem o_availableFor_0 : InsA md_availableFor 0 (.aload_n 0) 1 1 := ⟨by decide +kernel, rfl⟩
theorem o_availableFor_1 : InsA md_availableFor 1 (.iload_n 2) 1 2 := ⟨by decide +kernel, rfl⟩
theorem o_availableFor_2 : InsA md_availableFor 2 (.invokevirtual 164) 3 5 := ⟨by decide +kernel, rfl⟩
theorem o_availableFor_5 : InsA md_availableFor 5 (.istore_n 3) 1 6 := ⟨by decide +kernel, rfl⟩
theorem o_availableFor_6 : InsA md_availableFor 6 (.aload_n 0) 1 7 := ⟨by decide +kernel, rfl⟩
theorem o_availableFor_7 : InsA md_availableFor 7 (.aload_n 0) 1 8 := ⟨by decide +kernel, rfl⟩
theorem o_availableFor_8 : InsA md_availableFor 8 (.getfield 79) 3 11 := ⟨by decide +kernel, rfl⟩
theorem o_availableFor_11 : InsA md_availableFor 11 (.invokevirtual 116) 3 14 := ⟨by decide +kernel, rfl⟩
theorem o_availableFor_14 : InsB md_availableFor 14 (.ifCond .ne 5) 3 17 (5) 19 := ⟨by decide +kernel, rfl, by decide, by decide⟩
theorem o_availableFor_17 : InsA md_availableFor 17 (.iload_n 3) 1 18 := ⟨by decide +kernel, rfl⟩
theorem o_availableFor_18 : InsA md_availableFor 18 (.ireturn) 1 19 := ⟨by decide +kernel, rfl⟩
theorem o_availableFor_19 : InsA md_availableFor 19 (.aload_n 0) 1 20 := ⟨by decide +kernel, rfl⟩
theorem o_availableFor_20 : InsA md_availableFor 20 (.getfield 43) 3 23 := ⟨by decide +kernel, rfl⟩
theorem o_availableFor_23 : InsA md_availableFor 23 (.aload_n 0) 1 24 := ⟨by decide +kernel, rfl⟩
theorem o_availableFor_24 : InsA md_availableFor 24 (.getfield 79) 3 27 := ⟨by decide +kernel, rfl⟩
theorem o_availableFor_27 : InsA md_availableFor 27 (.iaload) 1 28 := ⟨by decide +kernel, rfl⟩
theorem o_availableFor_28 : InsA md_availableFor 28 (.iload_n 1) 1 29 := ⟨by decide +kernel, rfl⟩
theorem o_availableFor_29 : InsB md_availableFor 29 (.if_icmp .ne 5) 3 32 (5) 34 := ⟨by decide +kernel, rfl, by decide, by decide⟩
theorem o_availableFor_32 : InsA md_availableFor 32 (.iload_n 3) 1 33 := ⟨by decide +kernel, rfl⟩
theorem o_availableFor_33 : InsA md_availableFor 33 (.ireturn) 1 34 := ⟨by decide +kernel, rfl⟩
theorem o_availableFor_34 : InsA md_availableFor 34 (.iload_n 3) 1 35 := ⟨by decide +kernel, rfl⟩
theorem o_availableFor_35 : InsA md_availableFor 35 (.aload_n 0) 1 36 := ⟨by decide +kernel, rfl⟩
theorem o_availableFor_36 : InsA md_availableFor 36 (.aload_n 0) 1 37 := ⟨by decide +kernel, rfl⟩
theorem o_availableFor_37 : InsA md_availableFor 37 (.getfield 79) 3 40 := ⟨by decide +kernel, rfl⟩
theorem o_availableFor_40 : InsA md_availableFor 40 (.iload_n 2) 1 41 := ⟨by decide +kernel, rfl⟩
theorem o_availableFor_41 : InsA md_availableFor 41 (.invokevirtual 157) 3 44 := ⟨by decide +kernel, rfl⟩
theorem o_availableFor_44 : InsA md_availableFor 44 (.isub) 1 45 := ⟨by decide +kernel, rfl⟩
theorem o_availableFor_45 : InsA md_availableFor 45 (.ireturn) 1 46 := ⟨by decide +kernel, rfl⟩
abbrev md_freeOf : MD := (⟨"DominantShare", "freeOf", "(I)I"⟩, prog_1_method_43_code, 2, some .int, { frames := 0, cells := 0, slots := 0, locals := 0 }, 0)
theorem cv_freeOf {Z : State} {a0 : Array Value} (H : OK Z a0) : CalV Z a0 md_freeOf 1 := ⟨pn_DominantShare, by decide, pd__I_I, H.w 166 rfl, H.w 168 rfl, H.w 2 rfl, Or.inr ⟨H.w 167 rfl, 19, H.w 1 rfl⟩⟩
theorem o_freeOf_0 : InsA md_freeOf 0 (.aload_n 0) 1 1 := ⟨by decide +kernel, rfl⟩
theorem o_freeOf_1 : InsA md_freeOf 1 (.getfield 7) 3 4 := ⟨by decide +kernel, rfl⟩
theorem o_freeOf_4 : InsA md_freeOf 4 (.iload_n 1) 1 5 := ⟨by decide +kernel, rfl⟩
theorem o_freeOf_5 : InsA md_freeOf 5 (.iaload) 1 6 := ⟨by decide +kernel, rfl⟩
theorem o_freeOf_6 : InsA md_freeOf 6 (.aload_n 0) 1 7 := ⟨by decide +kernel, rfl⟩
theorem o_freeOf_7 : InsA md_freeOf 7 (.getfield 13) 3 10 := ⟨by decide +kernel, rfl⟩
theorem o_freeOf_10 : InsA md_freeOf 10 (.iload_n 1) 1 11 := ⟨by decide +kernel, rfl⟩
theorem o_freeOf_11 : InsA md_freeOf 11 (.iaload) 1 12 := ⟨by decide +kernel, rfl⟩
theorem o_freeOf_12 : InsA md_freeOf 12 (.isub) 1 13 := ⟨by decide +kernel, rfl⟩
theorem o_freeOf_13 : InsA md_freeOf 13 (.ireturn) 1 14 := ⟨by decide +kernel, rfl⟩
abbrev md_grantTask : MD := (⟨"DominantShare", "grantTask", "(I)V"⟩, prog_1_method_36_code, 3, none, { frames := 2, cells := 0, slots := 0, locals := 34 }, 0)
theorem cv_grantTask {Z : State} {a0 : Array Value} (H : OK Z a0) : CalV Z a0 md_grantTask 1 := ⟨pn_DominantShare, by decide, pd__I_V, H.w 170 rfl, H.w 172 rfl, H.w 2 rfl, Or.inr ⟨H.w 171 rfl, 19, H.w 1 rfl⟩⟩
theorem o_grantTask_0 : InsA md_grantTask 0 (.aload_n 0) 1 1 := ⟨by decide +kernel, rfl⟩
theorem o_grantTask_1 : InsA md_grantTask 1 (.getfield 43) 3 4 := ⟨by decide +kernel, rfl⟩
theorem o_grantTask_4 : InsA md_grantTask 4 (.iload_n 1) 1 5 := ⟨by decide +kernel, rfl⟩
theorem o_grantTask_5 : InsA md_grantTask 5 (.iaload) 1 6 := ⟨by decide +kernel, rfl⟩
theorem o_grantTask_6 : InsA md_grantTask 6 (.istore_n 2) 1 7 := ⟨by decide +kernel, rfl⟩
theorem o_grantTask_7 : InsA md_grantTask 7 (.aload_n 0) 1 8 := ⟨by decide +kernel, rfl⟩
theorem o_grantTask_8 : InsA md_grantTask 8 (.getfield 40) 3 11 := ⟨by decide +kernel, rfl⟩
theorem o_grantTask_11 : InsA md_grantTask 11 (.iload_n 1) 1 12 := ⟨by decide +kernel, rfl⟩
theorem o_grantTask_12 : InsA md_grantTask 12 (.iconst 2) 1 13 := ⟨by decide +kernel, rfl⟩
theorem o_grantTask_13 : InsA md_grantTask 13 (.iastore) 1 14 := ⟨by decide +kernel, rfl⟩
theorem o_grantTask_14 : InsA md_grantTask 14 (.aload_n 0) 1 15 := ⟨by decide +kernel, rfl⟩
theorem o_grantTask_15 : InsA md_grantTask 15 (.iload_n 2) 1 16 := ⟨by decide +kernel, rfl⟩
theorem o_grantTask_16 : InsA md_grantTask 16 (.invokevirtual 82) 3 19 := ⟨by decide +kernel, rfl⟩
theorem o_grantTask_19 : InsB md_grantTask 19 (.ifCond .ne 4) 3 22 (4) 23 := ⟨by decide +kernel, rfl, by decide, by decide⟩
theorem o_grantTask_22 : InsA md_grantTask 22 (.return_) 1 23 := ⟨by decide +kernel, rfl⟩
theorem o_grantTask_23 : InsA md_grantTask 23 (.aload_n 0) 1 24 := ⟨by decide +kernel, rfl⟩
theorem o_grantTask_24 : InsA md_grantTask 24 (.getfield 28) 3 27 := ⟨by decide +kernel, rfl⟩
theorem o_grantTask_27 : InsA md_grantTask 27 (.iload_n 2) 1 28 := ⟨by decide +kernel, rfl⟩
theorem o_grantTask_28 : InsA md_grantTask 28 (.dup2) 1 29 := ⟨by decide +kernel, rfl⟩
theorem o_grantTask_29 : InsA md_grantTask 29 (.iaload) 1 30 := ⟨by decide +kernel, rfl⟩
theorem o_grantTask_30 : InsA md_grantTask 30 (.iconst 1) 1 31 := ⟨by decide +kernel, rfl⟩
theorem o_grantTask_31 : InsA md_grantTask 31 (.isub) 1 32 := ⟨by decide +kernel, rfl⟩
theorem o_grantTask_32 : InsA md_grantTask 32 (.iastore) 1 33 := ⟨by decide +kernel, rfl⟩
theorem o_grantTask_33 : InsA md_grantTask 33 (.aload_n 0) 1 34 := ⟨by decide +kernel, rfl⟩
theorem o_grantTask_34 : InsA md_grantTask 34 (.getfield 25) 3 37 := ⟨by decide +kernel, rfl⟩
theorem o_grantTask_37 : InsA md_grantTask 37 (.iload_n 2) 1 38 := ⟨by decide +kernel, rfl⟩
theorem o_grantTask_38 : InsA md_grantTask 38 (.dup2) 1 39 := ⟨by decide +kernel, rfl⟩
theorem o_grantTask_39 : InsA md_grantTask 39 (.iaload) 1 40 := ⟨by decide +kernel, rfl⟩
theorem o_grantTask_40 : InsA md_grantTask 40 (.iconst 1) 1 41 := ⟨by decide +kernel, rfl⟩
theorem o_grantTask_41 : InsA md_grantTask 41 (.iadd) 1 42 := ⟨by decide +kernel, rfl⟩
theorem o_grantTask_42 : InsA md_grantTask 42 (.iastore) 1 43 := ⟨by decide +kernel, rfl⟩
theorem o_grantTask_43 : InsA md_grantTask 43 (.aload_n 0) 1 44 := ⟨by decide +kernel, rfl⟩
theorem o_grantTask_44 : InsA md_grantTask 44 (.iload_n 2) 1 45 := ⟨by decide +kernel, rfl⟩
theorem o_grantTask_45 : InsA md_grantTask 45 (.iload_n 1) 1 46 := ⟨by decide +kernel, rfl⟩
theorem o_grantTask_46 : InsA md_grantTask 46 (.invokevirtual 154) 3 49 := ⟨by decide +kernel, rfl⟩
theorem o_grantTask_49 : InsA md_grantTask 49 (.aload_n 0) 1 50 := ⟨by decide +kernel, rfl⟩
theorem o_grantTask_50 : InsA md_grantTask 50 (.iload_n 2) 1 51 := ⟨by decide +kernel, rfl⟩
theorem o_grantTask_51 : InsA md_grantTask 51 (.invokevirtual 122) 3 54 := ⟨by decide +kernel, rfl⟩
theorem o_grantTask_54 : InsA md_grantTask 54 (.aload_n 0) 1 55 := ⟨by decide +kernel, rfl⟩
theorem o_grantTask_55 : InsA md_grantTask 55 (.iload_n 2) 1 56 := ⟨by decide +kernel, rfl⟩
theorem o_grantTask_56 : InsA md_grantTask 56 (.invokevirtual 129) 3 59 := ⟨by decide +kernel, rfl⟩
theorem o_grantTask_59 : InsA md_grantTask 59 (.return_) 1 60 := ⟨by decide +kernel, rfl⟩
abbrev md_addNeed : MD := (⟨"DominantShare", "addNeed", "(II)V"⟩, prog_1_method_37_code, 5, none, { frames := 1, cells := 0, slots := 0, locals := 15 }, 0)
theorem cv_addNeed {Z : State} {a0 : Array Value} (H : OK Z a0) : CalV Z a0 md_addNeed 2 := ⟨pn_DominantShare, by decide, pd__II_V, H.w 174 rfl, H.w 176 rfl, H.w 2 rfl, Or.inr ⟨H.w 175 rfl, 19, H.w 1 rfl⟩⟩
theorem o_addNeed_0 : InsA md_addNeed 0 (.iconst 0) 1 1 := ⟨by decide +kernel, rfl⟩
theorem o_addNeed_1 : InsA md_addNeed 1 (.istore_n 3) 1 2 := ⟨by decide +kernel, rfl⟩
theorem o_addNeed_2 : InsA md_addNeed 2 (.iload_n 3) 1 3 := ⟨by decide +kernel, rfl⟩
theorem o_addNeed_3 : InsA md_addNeed 3 (.iconst 3) 1 4 := ⟨by decide +kernel, rfl⟩
theorem o_addNeed_4 : InsB md_addNeed 4 (.if_icmp .ge 44) 3 7 (44) 48 := ⟨by decide +kernel, rfl, by decide, by decide⟩
theorem o_addNeed_7 : InsA md_addNeed 7 (.aload_n 0) 1 8 := ⟨by decide +kernel, rfl⟩
theorem o_addNeed_8 : InsA md_addNeed 8 (.iload_n 2) 1 9 := ⟨by decide +kernel, rfl⟩
theorem o_addNeed_9 : InsA md_addNeed 9 (.iload_n 3) 1 10 := ⟨by decide +kernel, rfl⟩
theorem o_addNeed_10 : InsA md_addNeed 10 (.invokevirtual 157) 3 13 := ⟨by decide +kernel, rfl⟩
theorem o_addNeed_13 : InsA md_addNeed 13 (.istore 4) 2 15 := ⟨by decide +kernel, rfl⟩
theorem o_addNeed_15 : InsA md_addNeed 15 (.aload_n 0) 1 16 := ⟨by decide +kernel, rfl⟩
theorem o_addNeed_16 : InsA md_addNeed 16 (.getfield 37) 3 19 := ⟨by decide +kernel, rfl⟩
theorem o_addNeed_19 : InsA md_addNeed 19 (.aload_n 0) 1 20 := ⟨by decide +kernel, rfl⟩
theorem o_addNeed_20 : InsA md_addNeed 20 (.iload_n 1) 1 21 := ⟨by decide +kernel, rfl⟩
theorem o_addNeed_21 : InsA md_addNeed 21 (.iload_n 3) 1 22 := ⟨by decide +kernel, rfl⟩
theorem o_addNeed_22 : InsA md_addNeed 22 (.invokevirtual 144) 3 25 := ⟨by decide +kernel, rfl⟩
theorem o_addNeed_25 : InsA md_addNeed 25 (.dup2) 1 26 := ⟨by decide +kernel, rfl⟩
theorem o_addNeed_26 : InsA md_addNeed 26 (.iaload) 1 27 := ⟨by decide +kernel, rfl⟩
theorem o_addNeed_27 : InsA md_addNeed 27 (.iload 4) 2 29 := ⟨by decide +kernel, rfl⟩
theorem o_addNeed_29 : InsA md_addNeed 29 (.iadd) 1 30 := ⟨by decide +kernel, rfl⟩
theorem o_addNeed_30 : InsA md_addNeed 30 (.iastore) 1 31 := ⟨by decide +kernel, rfl⟩
theorem o_addNeed_31 : InsA md_addNeed 31 (.aload_n 0) 1 32 := ⟨by decide +kernel, rfl⟩
theorem o_addNeed_32 : InsA md_addNeed 32 (.getfield 13) 3 35 := ⟨by decide +kernel, rfl⟩
theorem o_addNeed_35 : InsA md_addNeed 35 (.iload_n 3) 1 36 := ⟨by decide +kernel, rfl⟩
theorem o_addNeed_36 : InsA md_addNeed 36 (.dup2) 1 37 := ⟨by decide +kernel, rfl⟩
theorem o_addNeed_37 : InsA md_addNeed 37 (.iaload) 1 38 := ⟨by decide +kernel, rfl⟩
theorem o_addNeed_38 : InsA md_addNeed 38 (.iload 4) 2 40 := ⟨by decide +kernel, rfl⟩
theorem o_addNeed_40 : InsA md_addNeed 40 (.iadd) 1 41 := ⟨by decide +kernel, rfl⟩
theorem o_addNeed_41 : InsA md_addNeed 41 (.iastore) 1 42 := ⟨by decide +kernel, rfl⟩
theorem o_addNeed_42 : InsA md_addNeed 42 (.iinc 3 1) 3 45 := ⟨by decide +kernel, rfl⟩
theorem o_addNeed_45 : InsB md_addNeed 45 (.goto (-43)) 3 48 (-43) 2 := ⟨by decide +kernel, rfl, by decide, by decide⟩
theorem o_addNeed_48 : InsA md_addNeed 48 (.return_) 1 49 := ⟨by decide +kernel, rfl⟩
abbrev md_recomputeHead : MD := (⟨"DominantShare", "recomputeHead", "(I)V"⟩, prog_1_method_39_code, 4, none, { frames := 0, cells := 0, slots := 0, locals := 0 }, 0)
theorem cv_recomputeHead {Z : State} {a0 : Array Value} (H : OK Z a0) : CalV Z a0 md_recomputeHead 1 := ⟨pn_DominantShare, by decide, pd__I_V, H.w 178 rfl, H.w 180 rfl, H.w 2 rfl, Or.inr ⟨H.w 179 rfl, 19, H.w 1 rfl⟩⟩
theorem o_recomputeHead_0 : InsA md_recomputeHead 0 (.iload_n 1) 1 1 := ⟨by decide +kernel, rfl⟩
theorem o_recomputeHead_1 : InsB md_recomputeHead 1 (.ifCond .lt 9) 3 4 (9) 10 := ⟨by decide +kernel, rfl, by decide, by decide⟩
theorem o_recomputeHead_4 : InsA md_recomputeHead 4 (.iload_n 1) 1 5 := ⟨by decide +kernel, rfl⟩
theorem o_recomputeHead_5 : InsA md_recomputeHead 5 (.bipush 8) 2 7 := ⟨by decide +kernel, rfl⟩
theorem o_recomputeHead_7 : InsB md_recomputeHead 7 (.if_icmp .lt 4) 3 10 (4) 11 := ⟨by decide +kernel, rfl, by decide, by decide⟩
theorem o_recomputeHead_10 : InsA md_recomputeHead 10 (.return_) 1 11 := ⟨by decide +kernel, rfl⟩
theorem o_recomputeHead_11 : InsA md_recomputeHead 11 (.iconst (-1)) 1 12 := ⟨by decide +kernel, rfl⟩
theorem o_recomputeHead_12 : InsA md_recomputeHead 12 (.istore_n 2) 1 13 := ⟨by decide +kernel, rfl⟩
theorem o_recomputeHead_13 : InsA md_recomputeHead 13 (.iconst 0) 1 14 := ⟨by decide +kernel, rfl⟩
theorem o_recomputeHead_14 : InsA md_recomputeHead 14 (.istore_n 3) 1 15 := ⟨by decide +kernel, rfl⟩
theorem o_recomputeHead_15 : InsA md_recomputeHead 15 (.iload_n 3) 1 16 := ⟨by decide +kernel, rfl⟩
theorem o_recomputeHead_16 : InsA md_recomputeHead 16 (.bipush 32) 2 18 := ⟨by decide +kernel, rfl⟩
theorem o_recomputeHead_18 : InsB md_recomputeHead 18 (.if_icmp .ge 54) 3 21 (54) 72 := ⟨by decide +kernel, rfl, by decide, by decide⟩
theorem o_recomputeHead_21 : InsA md_recomputeHead 21 (.aload_n 0) 1 22 := ⟨by decide +kernel, rfl⟩
theorem o_recomputeHead_22 : InsA md_recomputeHead 22 (.getfield 40) 3 25 := ⟨by decide +kernel, rfl⟩
theorem o_recomputeHead_25 : InsA md_recomputeHead 25 (.iload_n 3) 1 26 := ⟨by decide +kernel, rfl⟩
theorem o_recomputeHead_26 : InsA md_recomputeHead 26 (.iaload) 1 27 := ⟨by decide +kernel, rfl⟩
theorem o_recomputeHead_27 : InsA md_recomputeHead 27 (.iconst 1) 1 28 := ⟨by decide +kernel, rfl⟩
theorem o_recomputeHead_28 : InsB md_recomputeHead 28 (.if_icmp .ne 38) 3 31 (38) 66 := ⟨by decide +kernel, rfl, by decide, by decide⟩
theorem o_recomputeHead_31 : InsA md_recomputeHead 31 (.aload_n 0) 1 32 := ⟨by decide +kernel, rfl⟩
theorem o_recomputeHead_32 : InsA md_recomputeHead 32 (.getfield 43) 3 35 := ⟨by decide +kernel, rfl⟩
theorem o_recomputeHead_35 : InsA md_recomputeHead 35 (.iload_n 3) 1 36 := ⟨by decide +kernel, rfl⟩
theorem o_recomputeHead_36 : InsA md_recomputeHead 36 (.iaload) 1 37 := ⟨by decide +kernel, rfl⟩
theorem o_recomputeHead_37 : InsA md_recomputeHead 37 (.iload_n 1) 1 38 := ⟨by decide +kernel, rfl⟩
theorem o_recomputeHead_38 : InsB md_recomputeHead 38 (.if_icmp .eq 6) 3 41 (6) 44 := ⟨by decide +kernel, rfl, by decide, by decide⟩
theorem o_recomputeHead_41 : InsB md_recomputeHead 41 (.goto 25) 3 44 (25) 66 := ⟨by decide +kernel, rfl, by decide, by decide⟩
theorem o_recomputeHead_44 : InsA md_recomputeHead 44 (.iload_n 2) 1 45 := ⟨by decide +kernel, rfl⟩
theorem o_recomputeHead_45 : InsB md_recomputeHead 45 (.ifCond .lt 19) 3 48 (19) 64 := ⟨by decide +kernel, rfl, by decide, by decide⟩
theorem o_recomputeHead_48 : InsA md_recomputeHead 48 (.aload_n 0) 1 49 := ⟨by decide +kernel, rfl⟩
theorem o_recomputeHead_49 : InsA md_recomputeHead 49 (.getfield 52) 3 52 := ⟨by decide +kernel, rfl⟩
theorem o_recomputeHead_52 : InsA md_recomputeHead 52 (.iload_n 3) 1 53 := ⟨by decide +kernel, rfl⟩
theorem o_recomputeHead_53 : InsA md_recomputeHead 53 (.laload) 1 54 := ⟨by decide +kernel, rfl⟩
theorem o_recomputeHead_54 : InsA md_recomputeHead 54 (.aload_n 0) 1 55 := ⟨by decide +kernel, rfl⟩
theorem o_recomputeHead_55 : InsA md_recomputeHead 55 (.getfield 52) 3 58 := ⟨by decide +kernel, rfl⟩
theorem o_recomputeHead_58 : InsA md_recomputeHead 58 (.iload_n 2) 1 59 := ⟨by decide +kernel, rfl⟩
theorem o_recomputeHead_59 : InsA md_recomputeHead 59 (.laload) 1 60 := ⟨by decide +kernel, rfl⟩
theorem o_recomputeHead_60 : InsA md_recomputeHead 60 (.lcmp) 1 61 := ⟨by decide +kernel, rfl⟩
theorem o_recomputeHead_61 : InsB md_recomputeHead 61 (.ifCond .ge 5) 3 64 (5) 66 := ⟨by decide +kernel, rfl, by decide, by decide⟩
theorem o_recomputeHead_64 : InsA md_recomputeHead 64 (.iload_n 3) 1 65 := ⟨by decide +kernel, rfl⟩
theorem o_recomputeHead_65 : InsA md_recomputeHead 65 (.istore_n 2) 1 66 := ⟨by decide +kernel, rfl⟩
theorem o_recomputeHead_66 : InsA md_recomputeHead 66 (.iinc 3 1) 3 69 := ⟨by decide +kernel, rfl⟩
theorem o_recomputeHead_69 : InsB md_recomputeHead 69 (.goto (-54)) 3 72 (-54) 15 := ⟨by decide +kernel, rfl, by decide, by decide⟩
theorem o_recomputeHead_72 : InsA md_recomputeHead 72 (.aload_n 0) 1 73 := ⟨by decide +kernel, rfl⟩
theorem o_recomputeHead_73 : InsA md_recomputeHead 73 (.getfield 31) 3 76 := ⟨by decide +kernel, rfl⟩
theorem o_recomputeHead_76 : InsA md_recomputeHead 76 (.iload_n 1) 1 77 := ⟨by decide +kernel, rfl⟩
theorem o_recomputeHead_77 : InsA md_recomputeHead 77 (.iload_n 2) 1 78 := ⟨by decide +kernel, rfl⟩
theorem o_recomputeHead_78 : InsA md_recomputeHead 78 (.iastore) 1 79 := ⟨by decide +kernel, rfl⟩
theorem o_recomputeHead_79 : InsA md_recomputeHead 79 (.return_) 1 80 := ⟨by decide +kernel, rfl⟩
abbrev md_recomputeDominant : MD := (⟨"DominantShare", "recomputeDominant", "(I)V"⟩, prog_1_method_40_code, 8, none, { frames := 1, cells := 0, slots := 0, locals := 15 }, 0)
theorem cv_recomputeDominant {Z : State} {a0 : Array Value} (H : OK Z a0) : CalV Z a0 md_recomputeDominant 1 := ⟨pn_DominantShare, by decide, pd__I_V, H.w 182 rfl, H.w 184 rfl, H.w 2 rfl, Or.inr ⟨H.w 183 rfl, 19, H.w 1 rfl⟩⟩
theorem o_recomputeDominant_0 : InsA md_recomputeDominant 0 (.iload_n 1) 1 1 := ⟨by decide +kernel, rfl⟩
theorem o_recomputeDominant_1 : InsB md_recomputeDominant 1 (.ifCond .lt 9) 3 4 (9) 10 := ⟨by decide +kernel, rfl, by decide, by decide⟩
theorem o_recomputeDominant_4 : InsA md_recomputeDominant 4 (.iload_n 1) 1 5 := ⟨by decide +kernel, rfl⟩
theorem o_recomputeDominant_5 : InsA md_recomputeDominant 5 (.bipush 8) 2 7 := ⟨by decide +kernel, rfl⟩
theorem o_recomputeDominant_7 : InsB md_recomputeDominant 7 (.if_icmp .lt 4) 3 10 (4) 11 := ⟨by decide +kernel, rfl, by decide, by decide⟩
theorem o_recomputeDominant_10 : InsA md_recomputeDominant 10 (.return_) 1 11 := ⟨by decide +kernel, rfl⟩
theorem o_recomputeDominant_11 : InsA md_recomputeDominant 11 (.iconst 0) 1 12 := ⟨by decide +kernel, rfl⟩
theorem o_recomputeDominant_12 : InsA md_recomputeDominant 12 (.istore_n 2) 1 13 := ⟨by decide +kernel, rfl⟩
theorem o_recomputeDominant_13 : InsA md_recomputeDominant 13 (.iconst 1) 1 14 := ⟨by decide +kernel, rfl⟩
theorem o_recomputeDominant_14 : InsA md_recomputeDominant 14 (.istore_n 3) 1 15 := ⟨by decide +kernel, rfl⟩
theorem o_recomputeDominant_15 : InsA md_recomputeDominant 15 (.iload_n 3) 1 16 := ⟨by decide +kernel, rfl⟩
theorem o_recomputeDominant_16 : InsA md_recomputeDominant 16 (.iconst 3) 1 17 := ⟨by decide +kernel, rfl⟩
theorem o_recomputeDominant_17 : InsB md_recomputeDominant 17 (.if_icmp .ge 63) 3 20 (63) 80 := ⟨by decide +kernel, rfl, by decide, by decide⟩
theorem o_recomputeDominant_20 : InsA md_recomputeDominant 20 (.aload_n 0) 1 21 := ⟨by decide +kernel, rfl⟩
theorem o_recomputeDominant_21 : InsA md_recomputeDominant 21 (.getfield 37) 3 24 := ⟨by decide +kernel, rfl⟩
theorem o_recomputeDominant_24 : InsA md_recomputeDominant 24 (.aload_n 0) 1 25 := ⟨by decide +kernel, rfl⟩
theorem o_recomputeDominant_25 : InsA md_recomputeDominant 25 (.iload_n 1) 1 26 := ⟨by decide +kernel, rfl⟩
theorem o_recomputeDominant_26 : InsA md_recomputeDominant 26 (.iload_n 3) 1 27 := ⟨by decide +kernel, rfl⟩
theorem o_recomputeDominant_27 : InsA md_recomputeDominant 27 (.invokevirtual 144) 3 30 := ⟨by decide +kernel, rfl⟩
theorem o_recomputeDominant_30 : InsA md_recomputeDominant 30 (.iaload) 1 31 := ⟨by decide +kernel, rfl⟩
theorem o_recomputeDominant_31 : InsA md_recomputeDominant 31 (.i2l) 1 32 := ⟨by decide +kernel, rfl⟩
theorem o_recomputeDominant_32 : InsA md_recomputeDominant 32 (.aload_n 0) 1 33 := ⟨by decide +kernel, rfl⟩
theorem o_recomputeDominant_33 : InsA md_recomputeDominant 33 (.getfield 7) 3 36 := ⟨by decide +kernel, rfl⟩
theorem o_recomputeDominant_36 : InsA md_recomputeDominant 36 (.iload_n 2) 1 37 := ⟨by decide +kernel, rfl⟩
theorem o_recomputeDominant_37 : InsA md_recomputeDominant 37 (.iaload) 1 38 := ⟨by decide +kernel, rfl⟩
theorem o_recomputeDominant_38 : InsA md_recomputeDominant 38 (.i2l) 1 39 := ⟨by decide +kernel, rfl⟩
theorem o_recomputeDominant_39 : InsA md_recomputeDominant 39 (.lmul) 1 40 := ⟨by decide +kernel, rfl⟩
theorem o_recomputeDominant_40 : InsA md_recomputeDominant 40 (.lstore 4) 2 42 := ⟨by decide +kernel, rfl⟩
theorem o_recomputeDominant_42 : InsA md_recomputeDominant 42 (.aload_n 0) 1 43 := ⟨by decide +kernel, rfl⟩
theorem o_recomputeDominant_43 : InsA md_recomputeDominant 43 (.getfield 37) 3 46 := ⟨by decide +kernel, rfl⟩
theorem o_recomputeDominant_46 : InsA md_recomputeDominant 46 (.aload_n 0) 1 47 := ⟨by decide +kernel, rfl⟩
theorem o_recomputeDominant_47 : InsA md_recomputeDominant 47 (.iload_n 1) 1 48 := ⟨by decide +kernel, rfl⟩
theorem o_recomputeDominant_48 : InsA md_recomputeDominant 48 (.iload_n 2) 1 49 := ⟨by decide +kernel, rfl⟩
theorem o_recomputeDominant_49 : InsA md_recomputeDominant 49 (.invokevirtual 144) 3 52 := ⟨by decide +kernel, rfl⟩
theorem o_recomputeDominant_52 : InsA md_recomputeDominant 52 (.iaload) 1 53 := ⟨by decide +kernel, rfl⟩
theorem o_recomputeDominant_53 : InsA md_recomputeDominant 53 (.i2l) 1 54 := ⟨by decide +kernel, rfl⟩
theorem o_recomputeDominant_54 : InsA md_recomputeDominant 54 (.aload_n 0) 1 55 := ⟨by decide +kernel, rfl⟩
theorem o_recomputeDominant_55 : InsA md_recomputeDominant 55 (.getfield 7) 3 58 := ⟨by decide +kernel, rfl⟩
theorem o_recomputeDominant_58 : InsA md_recomputeDominant 58 (.iload_n 3) 1 59 := ⟨by decide +kernel, rfl⟩
theorem o_recomputeDominant_59 : InsA md_recomputeDominant 59 (.iaload) 1 60 := ⟨by decide +kernel, rfl⟩
theorem o_recomputeDominant_60 : InsA md_recomputeDominant 60 (.i2l) 1 61 := ⟨by decide +kernel, rfl⟩
theorem o_recomputeDominant_61 : InsA md_recomputeDominant 61 (.lmul) 1 62 := ⟨by decide +kernel, rfl⟩
theorem o_recomputeDominant_62 : InsA md_recomputeDominant 62 (.lstore 6) 2 64 := ⟨by decide +kernel, rfl⟩
theorem o_recomputeDominant_64 : InsA md_recomputeDominant 64 (.lload 4) 2 66 := ⟨by decide +kernel, rfl⟩
theorem o_recomputeDominant_66 : InsA md_recomputeDominant 66 (.lload 6) 2 68 := ⟨by decide +kernel, rfl⟩
theorem o_recomputeDominant_68 : InsA md_recomputeDominant 68 (.lcmp) 1 69 := ⟨by decide +kernel, rfl⟩
theorem o_recomputeDominant_69 : InsB md_recomputeDominant 69 (.ifCond .le 5) 3 72 (5) 74 := ⟨by decide +kernel, rfl, by decide, by decide⟩
theorem o_recomputeDominant_72 : InsA md_recomputeDominant 72 (.iload_n 3) 1 73 := ⟨by decide +kernel, rfl⟩
theorem o_recomputeDominant_73 : InsA md_recomputeDominant 73 (.istore_n 2) 1 74 := ⟨by decide +kernel, rfl⟩
theorem o_recomputeDominant_74 : InsA md_recomputeDominant 74 (.iinc 3 1) 3 77 := ⟨by decide +kernel, rfl⟩
theorem o_recomputeDominant_77 : InsB md_recomputeDominant 77 (.goto (-62)) 3 80 (-62) 15 := ⟨by decide +kernel, rfl, by decide, by decide⟩
theorem o_recomputeDominant_80 : InsA md_recomputeDominant 80 (.aload_n 0) 1 81 := ⟨by decide +kernel, rfl⟩
theorem o_recomputeDominant_81 : InsA md_recomputeDominant 81 (.getfield 34) 3 84 := ⟨by decide +kernel, rfl⟩
theorem o_recomputeDominant_84 : InsA md_recomputeDominant 84 (.iload_n 1) 1 85 := ⟨by decide +kernel, rfl⟩
theorem o_recomputeDominant_85 : InsA md_recomputeDominant 85 (.iload_n 2) 1 86 := ⟨by decide +kernel, rfl⟩
theorem o_recomputeDominant_86 : InsA md_recomputeDominant 86 (.iastore) 1 87 := ⟨by decide +kernel, rfl⟩
theorem o_recomputeDominant_87 : InsA md_recomputeDominant 87 (.return_) 1 88 := ⟨by decide +kernel, rfl⟩
abbrev md_used : MD := (⟨"DominantShare", "used", "(I)I"⟩, prog_1_method_13_code, 2, some .int, { frames := 1, cells := 0, slots := 0, locals := 13 }, 0)
theorem cv_used {Z : State} {a0 : Array Value} (H : OK Z a0) : CalV Z a0 md_used 1 := ⟨pn_DominantShare, by decide, pd__I_I, H.w 187 rfl, H.w 189 rfl, H.w 2 rfl, Or.inl ⟨H.w 186 rfl, H.w 188 rfl⟩⟩
theorem o_used_0 : InsA md_used 0 (.aload_n 0) 1 1 := ⟨by decide +kernel, rfl⟩
theorem o_used_1 : InsA md_used 1 (.iload_n 1) 1 2 := ⟨by decide +kernel, rfl⟩
theorem o_used_2 : InsA md_used 2 (.invokevirtual 141) 3 5 := ⟨by decide +kernel, rfl⟩
theorem o_used_5 : InsB md_used 5 (.ifCond .ne 5) 3 8 (5) 10 := ⟨by decide +kernel, rfl, by decide, by decide⟩
theorem o_used_8 : InsA md_used 8 (.iconst (-1)) 1 9 := ⟨by decide +kernel, rfl⟩
theorem o_used_9 : InsA md_used 9 (.ireturn) 1 10 := ⟨by decide +kernel, rfl⟩
theorem o_used_10 : InsA md_used 10 (.aload_n 0) 1 11 := ⟨by decide +kernel, rfl⟩
theorem o_used_11 : InsA md_used 11 (.getfield 13) 3 14 := ⟨by decide +kernel, rfl⟩
theorem o_used_14 : InsA md_used 14 (.iload_n 1) 1 15 := ⟨by decide +kernel, rfl⟩
theorem o_used_15 : InsA md_used 15 (.iaload) 1 16 := ⟨by decide +kernel, rfl⟩
theorem o_used_16 : InsA md_used 16 (.ireturn) 1 17 := ⟨by decide +kernel, rfl⟩
abbrev md_isResource : MD := (⟨"DominantShare", "isResource", "(I)Z"⟩, prog_1_method_21_code, 2, some .boolean, { frames := 0, cells := 0, slots := 0, locals := 0 }, 0)
theorem cv_isResource {Z : State} {a0 : Array Value} (H : OK Z a0) : CalV Z a0 md_isResource 1 := ⟨pn_DominantShare, by decide, pd__I_Z, H.w 191 rfl, H.w 193 rfl, H.w 2 rfl, Or.inr ⟨H.w 192 rfl, 19, H.w 1 rfl⟩⟩
theorem o_isResource_0 : InsA md_isResource 0 (.iload_n 1) 1 1 := ⟨by decide +kernel, rfl⟩
theorem o_isResource_1 : InsB md_isResource 1 (.ifCond .lt 12) 3 4 (12) 13 := ⟨by decide +kernel, rfl, by decide, by decide⟩
theorem o_isResource_4 : InsA md_isResource 4 (.iload_n 1) 1 5 := ⟨by decide +kernel, rfl⟩
theorem o_isResource_5 : InsA md_isResource 5 (.iconst 3) 1 6 := ⟨by decide +kernel, rfl⟩
theorem o_isResource_6 : InsB md_isResource 6 (.if_icmp .ge 7) 3 9 (7) 13 := ⟨by decide +kernel, rfl, by decide, by decide⟩
theorem o_isResource_9 : InsA md_isResource 9 (.iconst 1) 1 10 := ⟨by decide +kernel, rfl⟩
theorem o_isResource_10 : InsB md_isResource 10 (.goto 4) 3 13 (4) 14 := ⟨by decide +kernel, rfl, by decide, by decide⟩
theorem o_isResource_13 : InsA md_isResource 13 (.iconst 0) 1 14 := ⟨by decide +kernel, rfl⟩
theorem o_isResource_14 : InsA md_isResource 14 (.ireturn) 1 15 := ⟨by decide +kernel, rfl⟩
abbrev md_userAlloc : MD := (⟨"DominantShare", "userAlloc", "(II)I"⟩, prog_1_method_12_code, 3, some .int, { frames := 1, cells := 0, slots := 0, locals := 15 }, 0)
theorem cv_userAlloc {Z : State} {a0 : Array Value} (H : OK Z a0) : CalV Z a0 md_userAlloc 2 := ⟨pn_DominantShare, by decide, pd__II_I, H.w 196 rfl, H.w 198 rfl, H.w 2 rfl, Or.inl ⟨H.w 195 rfl, H.w 197 rfl⟩⟩
theorem o_userAlloc_0 : InsA md_userAlloc 0 (.aload_n 0) 1 1 := ⟨by decide +kernel, rfl⟩
theorem o_userAlloc_1 : InsA md_userAlloc 1 (.iload_n 1) 1 2 := ⟨by decide +kernel, rfl⟩
theorem o_userAlloc_2 : InsA md_userAlloc 2 (.invokevirtual 82) 3 5 := ⟨by decide +kernel, rfl⟩
theorem o_userAlloc_5 : InsB md_userAlloc 5 (.ifCond .eq 11) 3 8 (11) 16 := ⟨by decide +kernel, rfl, by decide, by decide⟩
theorem o_userAlloc_8 : InsA md_userAlloc 8 (.aload_n 0) 1 9 := ⟨by decide +kernel, rfl⟩
theorem o_userAlloc_9 : InsA md_userAlloc 9 (.iload_n 2) 1 10 := ⟨by decide +kernel, rfl⟩
theorem o_userAlloc_10 : InsA md_userAlloc 10 (.invokevirtual 141) 3 13 := ⟨by decide +kernel, rfl⟩
theorem o_userAlloc_13 : InsB md_userAlloc 13 (.ifCond .ne 5) 3 16 (5) 18 := ⟨by decide +kernel, rfl, by decide, by decide⟩
theorem o_userAlloc_16 : InsA md_userAlloc 16 (.iconst (-1)) 1 17 := ⟨by decide +kernel, rfl⟩
theorem o_userAlloc_17 : InsA md_userAlloc 17 (.ireturn) 1 18 := ⟨by decide +kernel, rfl⟩
theorem o_userAlloc_18 : InsA md_userAlloc 18 (.aload_n 0) 1 19 := ⟨by decide +kernel, rfl⟩
theorem o_userAlloc_19 : InsA md_userAlloc 19 (.getfield 37) 3 22 := ⟨by decide +kernel, rfl⟩
theorem o_userAlloc_22 : InsA md_userAlloc 22 (.aload_n 0) 1 23 := ⟨by decide +kernel, rfl⟩
theorem o_userAlloc_23 : InsA md_userAlloc 23 (.iload_n 1) 1 24 := ⟨by decide +kernel, rfl⟩
theorem o_userAlloc_24 : InsA md_userAlloc 24 (.iload_n 2) 1 25 := ⟨by decide +kernel, rfl⟩
theorem o_userAlloc_25 : InsA md_userAlloc 25 (.invokevirtual 144) 3 28 := ⟨by decide +kernel, rfl⟩
theorem o_userAlloc_28 : InsA md_userAlloc 28 (.iaload) 1 29 := ⟨by decide +kernel, rfl⟩
theorem o_userAlloc_29 : InsA md_userAlloc 29 (.ireturn) 1 30 := ⟨by decide +kernel, rfl⟩
abbrev md_compareShares : MD := (⟨"DominantShare", "compareShares", "(II)I"⟩, prog_1_method_15_code, 3, some .int, { frames := 2, cells := 0, slots := 0, locals := 36 }, 0)
theorem cv_compareShares {Z : State} {a0 : Array Value} (H : OK Z a0) : CalV Z a0 md_compareShares 2 := ⟨pn_DominantShare, by decide, pd__II_I, H.w 201 rfl, H.w 203 rfl, H.w 2 rfl, Or.inl ⟨H.w 200 rfl, H.w 202 rfl⟩⟩
theorem o_compareShares_0 : InsA md_compareShares 0 (.aload_n 0) 1 1 := ⟨by decide +kernel, rfl⟩
theorem o_compareShares_1 : InsA md_compareShares 1 (.iload_n 1) 1 2 := ⟨by decide +kernel, rfl⟩
theorem o_compareShares_2 : InsA md_compareShares 2 (.invokevirtual 82) 3 5 := ⟨by decide +kernel, rfl⟩
theorem o_compareShares_5 : InsB md_compareShares 5 (.ifCond .eq 11) 3 8 (11) 16 := ⟨by decide +kernel, rfl, by decide, by decide⟩
theorem o_compareShares_8 : InsA md_compareShares 8 (.aload_n 0) 1 9 := ⟨by decide +kernel, rfl⟩
theorem o_compareShares_9 : InsA md_compareShares 9 (.iload_n 2) 1 10 := ⟨by decide +kernel, rfl⟩
theorem o_compareShares_10 : InsA md_compareShares 10 (.invokevirtual 82) 3 13 := ⟨by decide +kernel, rfl⟩
theorem o_compareShares_13 : InsB md_compareShares 13 (.ifCond .ne 6) 3 16 (6) 19 := ⟨by decide +kernel, rfl, by decide, by decide⟩
theorem o_compareShares_16 : InsA md_compareShares 16 (.bipush (-2)) 2 18 := ⟨by decide +kernel, rfl⟩
theorem o_compareShares_18 : InsA md_compareShares 18 (.ireturn) 1 19 := ⟨by decide +kernel, rfl⟩
theorem o_compareShares_19 : InsA md_compareShares 19 (.aload_n 0) 1 20 := ⟨by decide +kernel, rfl⟩
theorem o_compareShares_20 : InsA md_compareShares 20 (.iload_n 1) 1 21 := ⟨by decide +kernel, rfl⟩
theorem o_compareShares_21 : InsA md_compareShares 21 (.iload_n 2) 1 22 := ⟨by decide +kernel, rfl⟩
theorem o_compareShares_22 : InsA md_compareShares 22 (.invokevirtual 148) 3 25 := ⟨by decide +kernel, rfl⟩
theorem o_compareShares_25 : InsA md_compareShares 25 (.ireturn) 1 26 := ⟨by decide +kernel, rfl⟩
abbrev md_L_law : MD := (x, code, maxLocals, ret, room_1, 16)
theorem o_L_law_0 : InsA md_L_law 0 (.iconst 4) 1 1 := ⟨at_0, rfl⟩
theorem o_L_law_1 : InsA md_L_law 1 (.iload_n 0) 1 2 := ⟨at_1, rfl⟩
theorem o_L_law_2 : InsA md_L_law 2 (.bipush 15) 2 4 := ⟨at_2, rfl⟩
theorem o_L_law_4 : InsA md_L_law 4 (.iand) 1 5 := ⟨at_4, rfl⟩
theorem o_L_law_5 : InsA md_L_law 5 (.iadd) 1 6 := ⟨at_5, rfl⟩
theorem o_L_law_6 : InsA md_L_law 6 (.istore 6) 2 8 := ⟨at_6, rfl⟩
theorem o_L_law_8 : InsA md_L_law 8 (.iconst 4) 1 9 := ⟨at_8, rfl⟩
theorem o_L_law_9 : InsA md_L_law 9 (.iload_n 1) 1 10 := ⟨at_9, rfl⟩
theorem o_L_law_10 : InsA md_L_law 10 (.bipush 15) 2 12 := ⟨at_10, rfl⟩
theorem o_L_law_12 : InsA md_L_law 12 (.iand) 1 13 := ⟨at_12, rfl⟩
theorem o_L_law_13 : InsA md_L_law 13 (.iadd) 1 14 := ⟨at_13, rfl⟩
theorem o_L_law_14 : InsA md_L_law 14 (.istore 7) 2 16 := ⟨at_14, rfl⟩
theorem o_L_law_16 : InsA md_L_law 16 (.iconst 1) 1 17 := ⟨at_16, rfl⟩
theorem o_L_law_17 : InsA md_L_law 17 (.iload_n 2) 1 18 := ⟨at_17, rfl⟩
theorem o_L_law_18 : InsA md_L_law 18 (.iconst 3) 1 19 := ⟨at_18, rfl⟩
theorem o_L_law_19 : InsA md_L_law 19 (.iand) 1 20 := ⟨at_19, rfl⟩
theorem o_L_law_20 : InsA md_L_law 20 (.iadd) 1 21 := ⟨at_20, rfl⟩
theorem o_L_law_21 : InsA md_L_law 21 (.istore 8) 2 23 := ⟨at_21, rfl⟩
theorem o_L_law_23 : InsA md_L_law 23 (.iconst 1) 1 24 := ⟨at_23, rfl⟩
theorem o_L_law_24 : InsA md_L_law 24 (.iload_n 3) 1 25 := ⟨at_24, rfl⟩
theorem o_L_law_25 : InsA md_L_law 25 (.iconst 3) 1 26 := ⟨at_25, rfl⟩
theorem o_L_law_26 : InsA md_L_law 26 (.iand) 1 27 := ⟨at_26, rfl⟩
theorem o_L_law_27 : InsA md_L_law 27 (.iadd) 1 28 := ⟨at_27, rfl⟩
theorem o_L_law_28 : InsA md_L_law 28 (.istore 9) 2 30 := ⟨at_28, rfl⟩
theorem o_L_law_30 : InsA md_L_law 30 (.iconst 1) 1 31 := ⟨at_30, rfl⟩
theorem o_L_law_31 : InsA md_L_law 31 (.iload 4) 2 33 := ⟨at_31, rfl⟩
theorem o_L_law_33 : InsA md_L_law 33 (.iconst 3) 1 34 := ⟨at_33, rfl⟩
theorem o_L_law_34 : InsA md_L_law 34 (.iand) 1 35 := ⟨at_34, rfl⟩
theorem o_L_law_35 : InsA md_L_law 35 (.iadd) 1 36 := ⟨at_35, rfl⟩
theorem o_L_law_36 : InsA md_L_law 36 (.istore 10) 2 38 := ⟨at_36, rfl⟩
theorem o_L_law_38 : InsA md_L_law 38 (.iconst 1) 1 39 := ⟨at_38, rfl⟩
theorem o_L_law_39 : InsA md_L_law 39 (.iload 5) 2 41 := ⟨at_39, rfl⟩
theorem o_L_law_41 : InsA md_L_law 41 (.iconst 3) 1 42 := ⟨at_41, rfl⟩
theorem o_L_law_42 : InsA md_L_law 42 (.iand) 1 43 := ⟨at_42, rfl⟩
theorem o_L_law_43 : InsA md_L_law 43 (.iadd) 1 44 := ⟨at_43, rfl⟩
theorem o_L_law_44 : InsA md_L_law 44 (.istore 11) 2 46 := ⟨at_44, rfl⟩
theorem o_L_law_46 : InsA md_L_law 46 (.new 7) 3 49 := ⟨at_46, rfl⟩
theorem o_L_law_49 : InsA md_L_law 49 (.dup) 1 50 := ⟨at_49, rfl⟩
theorem o_L_law_50 : InsA md_L_law 50 (.iload 6) 2 52 := ⟨at_50, rfl⟩
theorem o_L_law_52 : InsA md_L_law 52 (.iload 7) 2 54 := ⟨at_52, rfl⟩
theorem o_L_law_54 : InsA md_L_law 54 (.iconst 1) 1 55 := ⟨at_54, rfl⟩
theorem o_L_law_55 : InsA md_L_law 55 (.iconst 2) 1 56 := ⟨at_55, rfl⟩
theorem o_L_law_56 : InsA md_L_law 56 (.invokespecial 9) 3 59 := ⟨at_56, rfl⟩
theorem o_L_law_59 : InsA md_L_law 59 (.astore 12) 2 61 := ⟨at_59, rfl⟩
theorem o_L_law_61 : InsA md_L_law 61 (.aload 12) 2 63 := ⟨at_61, rfl⟩
theorem o_L_law_63 : InsA md_L_law 63 (.iload 8) 2 65 := ⟨at_63, rfl⟩
theorem o_L_law_65 : InsA md_L_law 65 (.iload 9) 2 67 := ⟨at_65, rfl⟩
theorem o_L_law_67 : InsA md_L_law 67 (.iconst 0) 1 68 := ⟨at_67, rfl⟩
theorem o_L_law_68 : InsA md_L_law 68 (.invokevirtual 12) 3 71 := ⟨at_68, rfl⟩
theorem o_L_law_71 : InsB md_L_law 71 (.ifCond .ne 5) 3 74 (5) 76 := ⟨at_71, rfl, by decide, by decide⟩
theorem o_L_law_74 : InsA md_L_law 74 (.iconst 0) 1 75 := ⟨at_74, rfl⟩
theorem o_L_law_75 : InsA md_L_law 75 (.ireturn) 1 76 := ⟨at_75, rfl⟩
theorem o_L_law_76 : InsA md_L_law 76 (.aload 12) 2 78 := ⟨at_76, rfl⟩
theorem o_L_law_78 : InsA md_L_law 78 (.iconst 0) 1 79 := ⟨at_78, rfl⟩
theorem o_L_law_79 : InsA md_L_law 79 (.iconst 1) 1 80 := ⟨at_79, rfl⟩
theorem o_L_law_80 : InsA md_L_law 80 (.invokevirtual 16) 3 83 := ⟨at_80, rfl⟩
theorem o_L_law_83 : InsB md_L_law 83 (.ifCond .eq 5) 3 86 (5) 88 := ⟨at_83, rfl, by decide, by decide⟩
theorem o_L_law_86 : InsA md_L_law 86 (.iconst 0) 1 87 := ⟨at_86, rfl⟩
theorem o_L_law_87 : InsA md_L_law 87 (.ireturn) 1 88 := ⟨at_87, rfl⟩
theorem o_L_law_88 : InsA md_L_law 88 (.aload 12) 2 90 := ⟨at_88, rfl⟩
theorem o_L_law_90 : InsA md_L_law 90 (.iconst 0) 1 91 := ⟨at_90, rfl⟩
theorem o_L_law_91 : InsA md_L_law 91 (.iconst 1) 1 92 := ⟨at_91, rfl⟩
theorem o_L_law_92 : InsA md_L_law 92 (.invokevirtual 16) 3 95 := ⟨at_92, rfl⟩
theorem o_L_law_95 : InsA md_L_law 95 (.iconst 1) 1 96 := ⟨at_95, rfl⟩
theorem o_L_law_96 : InsB md_L_law 96 (.if_icmp .eq 5) 3 99 (5) 101 := ⟨at_96, rfl, by decide, by decide⟩
theorem o_L_law_99 : InsA md_L_law 99 (.iconst 0) 1 100 := ⟨at_99, rfl⟩
theorem o_L_law_100 : InsA md_L_law 100 (.ireturn) 1 101 := ⟨at_100, rfl⟩
theorem o_L_law_101 : InsA md_L_law 101 (.aload 12) 2 103 := ⟨at_101, rfl⟩
theorem o_L_law_103 : InsA md_L_law 103 (.iconst 0) 1 104 := ⟨at_103, rfl⟩
theorem o_L_law_104 : InsA md_L_law 104 (.iconst 1) 1 105 := ⟨at_104, rfl⟩
theorem o_L_law_105 : InsA md_L_law 105 (.invokevirtual 16) 3 108 := ⟨at_105, rfl⟩
theorem o_L_law_108 : InsA md_L_law 108 (.iconst 2) 1 109 := ⟨at_108, rfl⟩
theorem o_L_law_109 : InsB md_L_law 109 (.if_icmp .eq 5) 3 112 (5) 114 := ⟨at_109, rfl, by decide, by decide⟩
theorem o_L_law_112 : InsA md_L_law 112 (.iconst 0) 1 113 := ⟨at_112, rfl⟩
theorem o_L_law_113 : InsA md_L_law 113 (.ireturn) 1 114 := ⟨at_113, rfl⟩
theorem o_L_law_114 : InsA md_L_law 114 (.aload 12) 2 116 := ⟨at_114, rfl⟩
theorem o_L_law_116 : InsA md_L_law 116 (.iload 10) 2 118 := ⟨at_116, rfl⟩
theorem o_L_law_118 : InsA md_L_law 118 (.iload 11) 2 120 := ⟨at_118, rfl⟩
theorem o_L_law_120 : InsA md_L_law 120 (.iconst 0) 1 121 := ⟨at_120, rfl⟩
theorem o_L_law_121 : InsA md_L_law 121 (.invokevirtual 12) 3 124 := ⟨at_121, rfl⟩
theorem o_L_law_124 : InsB md_L_law 124 (.ifCond .ne 5) 3 127 (5) 129 := ⟨at_124, rfl, by decide, by decide⟩
theorem o_L_law_127 : InsA md_L_law 127 (.iconst 0) 1 128 := ⟨at_127, rfl⟩
theorem o_L_law_128 : InsA md_L_law 128 (.ireturn) 1 129 := ⟨at_128, rfl⟩
theorem o_L_law_129 : InsA md_L_law 129 (.aload 12) 2 131 := ⟨at_129, rfl⟩
theorem o_L_law_131 : InsA md_L_law 131 (.iconst 1) 1 132 := ⟨at_131, rfl⟩
theorem o_L_law_132 : InsA md_L_law 132 (.iconst 1) 1 133 := ⟨at_132, rfl⟩
theorem o_L_law_133 : InsA md_L_law 133 (.invokevirtual 16) 3 136 := ⟨at_133, rfl⟩
theorem o_L_law_136 : InsA md_L_law 136 (.iconst 3) 1 137 := ⟨at_136, rfl⟩
theorem o_L_law_137 : InsB md_L_law 137 (.if_icmp .eq 5) 3 140 (5) 142 := ⟨at_137, rfl, by decide, by decide⟩
theorem o_L_law_140 : InsA md_L_law 140 (.iconst 0) 1 141 := ⟨at_140, rfl⟩
theorem o_L_law_141 : InsA md_L_law 141 (.ireturn) 1 142 := ⟨at_141, rfl⟩
theorem o_L_law_142 : InsA md_L_law 142 (.aload 12) 2 144 := ⟨at_142, rfl⟩
theorem o_L_law_144 : InsA md_L_law 144 (.iconst 1) 1 145 := ⟨at_144, rfl⟩
theorem o_L_law_145 : InsA md_L_law 145 (.iconst 1) 1 146 := ⟨at_145, rfl⟩
theorem o_L_law_146 : InsA md_L_law 146 (.invokevirtual 16) 3 149 := ⟨at_146, rfl⟩
theorem o_L_law_149 : InsA md_L_law 149 (.iconst 4) 1 150 := ⟨at_149, rfl⟩
theorem o_L_law_150 : InsB md_L_law 150 (.if_icmp .eq 5) 3 153 (5) 155 := ⟨at_150, rfl, by decide, by decide⟩
theorem o_L_law_153 : InsA md_L_law 153 (.iconst 0) 1 154 := ⟨at_153, rfl⟩
theorem o_L_law_154 : InsA md_L_law 154 (.ireturn) 1 155 := ⟨at_154, rfl⟩
theorem o_L_law_155 : InsA md_L_law 155 (.aload 12) 2 157 := ⟨at_155, rfl⟩
theorem o_L_law_157 : InsA md_L_law 157 (.iconst 1) 1 158 := ⟨at_157, rfl⟩
theorem o_L_law_158 : InsA md_L_law 158 (.iconst 1) 1 159 := ⟨at_158, rfl⟩
theorem o_L_law_159 : InsA md_L_law 159 (.invokevirtual 16) 3 162 := ⟨at_159, rfl⟩
theorem o_L_law_162 : InsA md_L_law 162 (.iconst 5) 1 163 := ⟨at_162, rfl⟩
theorem o_L_law_163 : InsB md_L_law 163 (.if_icmp .eq 5) 3 166 (5) 168 := ⟨at_163, rfl, by decide, by decide⟩
theorem o_L_law_166 : InsA md_L_law 166 (.iconst 0) 1 167 := ⟨at_166, rfl⟩
theorem o_L_law_167 : InsA md_L_law 167 (.ireturn) 1 168 := ⟨at_167, rfl⟩
theorem o_L_law_168 : InsA md_L_law 168 (.iconst 0) 1 169 := ⟨at_168, rfl⟩
theorem o_L_law_169 : InsA md_L_law 169 (.istore 13) 2 171 := ⟨at_169, rfl⟩
theorem o_L_law_171 : InsA md_L_law 171 (.iconst 0) 1 172 := ⟨at_171, rfl⟩
theorem o_L_law_172 : InsA md_L_law 172 (.istore 14) 2 174 := ⟨at_172, rfl⟩
theorem o_L_law_174 : InsA md_L_law 174 (.iconst 0) 1 175 := ⟨at_174, rfl⟩
theorem o_L_law_175 : InsA md_L_law 175 (.istore 15) 2 177 := ⟨at_175, rfl⟩
theorem o_L_law_177 : InsA md_L_law 177 (.iconst 0) 1 178 := ⟨at_177, rfl⟩
theorem o_L_law_178 : InsA md_L_law 178 (.istore 16) 2 180 := ⟨at_178, rfl⟩
theorem o_L_law_180 : InsA md_L_law 180 (.iconst 0) 1 181 := ⟨at_180, rfl⟩
theorem o_L_law_181 : InsA md_L_law 181 (.istore 17) 2 183 := ⟨at_181, rfl⟩
theorem o_L_law_183 : InsA md_L_law 183 (.iload 17) 2 185 := ⟨at_183, rfl⟩
theorem o_L_law_185 : InsA md_L_law 185 (.bipush 8) 2 187 := ⟨at_185, rfl⟩
theorem o_L_law_187 : InsB md_L_law 187 (.if_icmp .ge 257) 3 190 (257) 444 := ⟨at_187, rfl, by decide, by decide⟩
theorem o_L_law_190 : InsA md_L_law 190 (.iload 13) 2 192 := ⟨at_190, rfl⟩
theorem o_L_law_192 : InsA md_L_law 192 (.iconst 3) 1 193 := ⟨at_192, rfl⟩
theorem o_L_law_193 : InsB md_L_law 193 (.if_icmp .ge 27) 3 196 (27) 220 := ⟨at_193, rfl, by decide, by decide⟩
theorem o_L_law_196 : InsA md_L_law 196 (.iload 8) 2 198 := ⟨at_196, rfl⟩
theorem o_L_law_198 : InsA md_L_law 198 (.iload 6) 2 200 := ⟨at_198, rfl⟩
theorem o_L_law_200 : InsA md_L_law 200 (.iload 15) 2 202 := ⟨at_200, rfl⟩
theorem o_L_law_202 : InsA md_L_law 202 (.isub) 1 203 := ⟨at_202, rfl⟩
theorem o_L_law_203 : InsB md_L_law 203 (.if_icmp .gt 17) 3 206 (17) 220 := ⟨at_203, rfl, by decide, by decide⟩
theorem o_L_law_206 : InsA md_L_law 206 (.iload 9) 2 208 := ⟨at_206, rfl⟩
theorem o_L_law_208 : InsA md_L_law 208 (.iload 7) 2 210 := ⟨at_208, rfl⟩
theorem o_L_law_210 : InsA md_L_law 210 (.iload 16) 2 212 := ⟨at_210, rfl⟩
theorem o_L_law_212 : InsA md_L_law 212 (.isub) 1 213 := ⟨at_212, rfl⟩
theorem o_L_law_213 : InsB md_L_law 213 (.if_icmp .gt 7) 3 216 (7) 220 := ⟨at_213, rfl, by decide, by decide⟩
theorem o_L_law_216 : InsA md_L_law 216 (.iconst 1) 1 217 := ⟨at_216, rfl⟩
theorem o_L_law_217 : InsB md_L_law 217 (.goto 4) 3 220 (4) 221 := ⟨at_217, rfl, by decide, by decide⟩
theorem o_L_law_220 : InsA md_L_law 220 (.iconst 0) 1 221 := ⟨at_220, rfl⟩
theorem o_L_law_221 : InsA md_L_law 221 (.istore 18) 2 223 := ⟨at_221, rfl⟩
theorem o_L_law_223 : InsA md_L_law 223 (.iload 14) 2 225 := ⟨at_223, rfl⟩
theorem o_L_law_225 : InsA md_L_law 225 (.iconst 3) 1 226 := ⟨at_225, rfl⟩
theorem o_L_law_226 : InsB md_L_law 226 (.if_icmp .ge 27) 3 229 (27) 253 := ⟨at_226, rfl, by decide, by decide⟩
theorem o_L_law_229 : InsA md_L_law 229 (.iload 10) 2 231 := ⟨at_229, rfl⟩
theorem o_L_law_231 : InsA md_L_law 231 (.iload 6) 2 233 := ⟨at_231, rfl⟩
theorem o_L_law_233 : InsA md_L_law 233 (.iload 15) 2 235 := ⟨at_233, rfl⟩
theorem o_L_law_235 : InsA md_L_law 235 (.isub) 1 236 := ⟨at_235, rfl⟩
theorem o_L_law_236 : InsB md_L_law 236 (.if_icmp .gt 17) 3 239 (17) 253 := ⟨at_236, rfl, by decide, by decide⟩
theorem o_L_law_239 : InsA md_L_law 239 (.iload 11) 2 241 := ⟨at_239, rfl⟩
theorem o_L_law_241 : InsA md_L_law 241 (.iload 7) 2 243 := ⟨at_241, rfl⟩
theorem o_L_law_243 : InsA md_L_law 243 (.iload 16) 2 245 := ⟨at_243, rfl⟩
theorem o_L_law_245 : InsA md_L_law 245 (.isub) 1 246 := ⟨at_245, rfl⟩
theorem o_L_law_246 : InsB md_L_law 246 (.if_icmp .gt 7) 3 249 (7) 253 := ⟨at_246, rfl, by decide, by decide⟩
theorem o_L_law_249 : InsA md_L_law 249 (.iconst 1) 1 250 := ⟨at_249, rfl⟩
theorem o_L_law_250 : InsB md_L_law 250 (.goto 4) 3 253 (4) 254 := ⟨at_250, rfl, by decide, by decide⟩
theorem o_L_law_253 : InsA md_L_law 253 (.iconst 0) 1 254 := ⟨at_253, rfl⟩
theorem o_L_law_254 : InsA md_L_law 254 (.istore 19) 2 256 := ⟨at_254, rfl⟩
theorem o_L_law_256 : InsA md_L_law 256 (.iconst (-1)) 1 257 := ⟨at_256, rfl⟩
theorem o_L_law_257 : InsA md_L_law 257 (.istore 20) 2 259 := ⟨at_257, rfl⟩
theorem o_L_law_259 : InsA md_L_law 259 (.iload 18) 2 261 := ⟨at_259, rfl⟩
theorem o_L_law_261 : InsB md_L_law 261 (.ifCond .eq 72) 3 264 (72) 333 := ⟨at_261, rfl, by decide, by decide⟩
theorem o_L_law_264 : InsA md_L_law 264 (.iload 19) 2 266 := ⟨at_264, rfl⟩
theorem o_L_law_266 : InsB md_L_law 266 (.ifCond .eq 67) 3 269 (67) 333 := ⟨at_266, rfl, by decide, by decide⟩
theorem o_L_law_269 : InsA md_L_law 269 (.iload 13) 2 271 := ⟨at_269, rfl⟩
theorem o_L_law_271 : InsA md_L_law 271 (.iload 8) 2 273 := ⟨at_271, rfl⟩
theorem o_L_law_273 : InsA md_L_law 273 (.imul) 1 274 := ⟨at_273, rfl⟩
theorem o_L_law_274 : InsA md_L_law 274 (.i2l) 1 275 := ⟨at_274, rfl⟩
theorem o_L_law_275 : InsA md_L_law 275 (.iload 13) 2 277 := ⟨at_275, rfl⟩
theorem o_L_law_277 : InsA md_L_law 277 (.iload 9) 2 279 := ⟨at_277, rfl⟩
theorem o_L_law_279 : InsA md_L_law 279 (.imul) 1 280 := ⟨at_279, rfl⟩
theorem o_L_law_280 : InsA md_L_law 280 (.i2l) 1 281 := ⟨at_280, rfl⟩
theorem o_L_law_281 : InsA md_L_law 281 (.iload 6) 2 283 := ⟨at_281, rfl⟩
theorem o_L_law_283 : InsA md_L_law 283 (.i2l) 1 284 := ⟨at_283, rfl⟩
theorem o_L_law_284 : InsA md_L_law 284 (.iload 7) 2 286 := ⟨at_284, rfl⟩
theorem o_L_law_286 : InsA md_L_law 286 (.i2l) 1 287 := ⟨at_286, rfl⟩
theorem o_L_law_287 : InsA md_L_law 287 (.invokestatic 20) 3 290 := ⟨at_287, rfl⟩
theorem o_L_law_290 : InsA md_L_law 290 (.lstore 21) 2 292 := ⟨at_290, rfl⟩
theorem o_L_law_292 : InsA md_L_law 292 (.iload 14) 2 294 := ⟨at_292, rfl⟩
theorem o_L_law_294 : InsA md_L_law 294 (.iload 10) 2 296 := ⟨at_294, rfl⟩
theorem o_L_law_296 : InsA md_L_law 296 (.imul) 1 297 := ⟨at_296, rfl⟩
theorem o_L_law_297 : InsA md_L_law 297 (.i2l) 1 298 := ⟨at_297, rfl⟩
theorem o_L_law_298 : InsA md_L_law 298 (.iload 14) 2 300 := ⟨at_298, rfl⟩
theorem o_L_law_300 : InsA md_L_law 300 (.iload 11) 2 302 := ⟨at_300, rfl⟩
theorem o_L_law_302 : InsA md_L_law 302 (.imul) 1 303 := ⟨at_302, rfl⟩
theorem o_L_law_303 : InsA md_L_law 303 (.i2l) 1 304 := ⟨at_303, rfl⟩
theorem o_L_law_304 : InsA md_L_law 304 (.iload 6) 2 306 := ⟨at_304, rfl⟩
theorem o_L_law_306 : InsA md_L_law 306 (.i2l) 1 307 := ⟨at_306, rfl⟩
theorem o_L_law_307 : InsA md_L_law 307 (.iload 7) 2 309 := ⟨at_307, rfl⟩
theorem o_L_law_309 : InsA md_L_law 309 (.i2l) 1 310 := ⟨at_309, rfl⟩
theorem o_L_law_310 : InsA md_L_law 310 (.invokestatic 20) 3 313 := ⟨at_310, rfl⟩
theorem o_L_law_313 : InsA md_L_law 313 (.lstore 23) 2 315 := ⟨at_313, rfl⟩
theorem o_L_law_315 : InsA md_L_law 315 (.lload 21) 2 317 := ⟨at_315, rfl⟩
theorem o_L_law_317 : InsA md_L_law 317 (.lload 23) 2 319 := ⟨at_317, rfl⟩
theorem o_L_law_319 : InsA md_L_law 319 (.lcmp) 1 320 := ⟨at_319, rfl⟩
theorem o_L_law_320 : InsB md_L_law 320 (.ifCond .gt 7) 3 323 (7) 327 := ⟨at_320, rfl, by decide, by decide⟩
theorem o_L_law_323 : InsA md_L_law 323 (.iconst 0) 1 324 := ⟨at_323, rfl⟩
theorem o_L_law_324 : InsB md_L_law 324 (.goto 4) 3 327 (4) 328 := ⟨at_324, rfl, by decide, by decide⟩
theorem o_L_law_327 : InsA md_L_law 327 (.iconst 1) 1 328 := ⟨at_327, rfl⟩
theorem o_L_law_328 : InsA md_L_law 328 (.istore 20) 2 330 := ⟨at_328, rfl⟩
theorem o_L_law_330 : InsB md_L_law 330 (.goto 22) 3 333 (22) 352 := ⟨at_330, rfl, by decide, by decide⟩
theorem o_L_law_333 : InsA md_L_law 333 (.iload 18) 2 335 := ⟨at_333, rfl⟩
theorem o_L_law_335 : InsB md_L_law 335 (.ifCond .eq 9) 3 338 (9) 344 := ⟨at_335, rfl, by decide, by decide⟩
theorem o_L_law_338 : InsA md_L_law 338 (.iconst 0) 1 339 := ⟨at_338, rfl⟩
theorem o_L_law_339 : InsA md_L_law 339 (.istore 20) 2 341 := ⟨at_339, rfl⟩
theorem o_L_law_341 : InsB md_L_law 341 (.goto 11) 3 344 (11) 352 := ⟨at_341, rfl, by decide, by decide⟩
theorem o_L_law_344 : InsA md_L_law 344 (.iload 19) 2 346 := ⟨at_344, rfl⟩
theorem o_L_law_346 : InsB md_L_law 346 (.ifCond .eq 6) 3 349 (6) 352 := ⟨at_346, rfl, by decide, by decide⟩
theorem o_L_law_349 : InsA md_L_law 349 (.iconst 1) 1 350 := ⟨at_349, rfl⟩
theorem o_L_law_350 : InsA md_L_law 350 (.istore 20) 2 352 := ⟨at_350, rfl⟩
theorem o_L_law_352 : InsA md_L_law 352 (.aload 12) 2 354 := ⟨at_352, rfl⟩
theorem o_L_law_354 : InsA md_L_law 354 (.invokevirtual 26) 3 357 := ⟨at_354, rfl⟩
theorem o_L_law_357 : InsA md_L_law 357 (.istore 21) 2 359 := ⟨at_357, rfl⟩
theorem o_L_law_359 : InsA md_L_law 359 (.iload 20) 2 361 := ⟨at_359, rfl⟩
theorem o_L_law_361 : InsB md_L_law 361 (.ifCond .ne 32) 3 364 (32) 393 := ⟨at_361, rfl, by decide, by decide⟩
theorem o_L_law_364 : InsA md_L_law 364 (.iload 21) 2 366 := ⟨at_364, rfl⟩
theorem o_L_law_366 : InsA md_L_law 366 (.iload 13) 2 368 := ⟨at_366, rfl⟩
theorem o_L_law_368 : InsB md_L_law 368 (.if_icmp .eq 5) 3 371 (5) 373 := ⟨at_368, rfl, by decide, by decide⟩
theorem o_L_law_371 : InsA md_L_law 371 (.iconst 0) 1 372 := ⟨at_371, rfl⟩
theorem o_L_law_372 : InsA md_L_law 372 (.ireturn) 1 373 := ⟨at_372, rfl⟩
theorem o_L_law_373 : InsA md_L_law 373 (.iinc 13 1) 3 376 := ⟨at_373, rfl⟩
theorem o_L_law_376 : InsA md_L_law 376 (.iload 15) 2 378 := ⟨at_376, rfl⟩
theorem o_L_law_378 : InsA md_L_law 378 (.iload 8) 2 380 := ⟨at_378, rfl⟩
theorem o_L_law_380 : InsA md_L_law 380 (.iadd) 1 381 := ⟨at_380, rfl⟩
theorem o_L_law_381 : InsA md_L_law 381 (.istore 15) 2 383 := ⟨at_381, rfl⟩
theorem o_L_law_383 : InsA md_L_law 383 (.iload 16) 2 385 := ⟨at_383, rfl⟩
theorem o_L_law_385 : InsA md_L_law 385 (.iload 9) 2 387 := ⟨at_385, rfl⟩
theorem o_L_law_387 : InsA md_L_law 387 (.iadd) 1 388 := ⟨at_387, rfl⟩
theorem o_L_law_388 : InsA md_L_law 388 (.istore 16) 2 390 := ⟨at_388, rfl⟩
theorem o_L_law_390 : InsB md_L_law 390 (.goto 48) 3 393 (48) 438 := ⟨at_390, rfl, by decide, by decide⟩
theorem o_L_law_393 : InsA md_L_law 393 (.iload 20) 2 395 := ⟨at_393, rfl⟩
theorem o_L_law_395 : InsA md_L_law 395 (.iconst 1) 1 396 := ⟨at_395, rfl⟩
theorem o_L_law_396 : InsB md_L_law 396 (.if_icmp .ne 34) 3 399 (34) 430 := ⟨at_396, rfl, by decide, by decide⟩
theorem o_L_law_399 : InsA md_L_law 399 (.iload 21) 2 401 := ⟨at_399, rfl⟩
theorem o_L_law_401 : InsA md_L_law 401 (.iconst 3) 1 402 := ⟨at_401, rfl⟩
theorem o_L_law_402 : InsA md_L_law 402 (.iload 14) 2 404 := ⟨at_402, rfl⟩
theorem o_L_law_404 : InsA md_L_law 404 (.iadd) 1 405 := ⟨at_404, rfl⟩
theorem o_L_law_405 : InsB md_L_law 405 (.if_icmp .eq 5) 3 408 (5) 410 := ⟨at_405, rfl, by decide, by decide⟩
theorem o_L_law_408 : InsA md_L_law 408 (.iconst 0) 1 409 := ⟨at_408, rfl⟩
theorem o_L_law_409 : InsA md_L_law 409 (.ireturn) 1 410 := ⟨at_409, rfl⟩
theorem o_L_law_410 : InsA md_L_law 410 (.iinc 14 1) 3 413 := ⟨at_410, rfl⟩
theorem o_L_law_413 : InsA md_L_law 413 (.iload 15) 2 415 := ⟨at_413, rfl⟩
theorem o_L_law_415 : InsA md_L_law 415 (.iload 10) 2 417 := ⟨at_415, rfl⟩
theorem o_L_law_417 : InsA md_L_law 417 (.iadd) 1 418 := ⟨at_417, rfl⟩
theorem o_L_law_418 : InsA md_L_law 418 (.istore 15) 2 420 := ⟨at_418, rfl⟩
theorem o_L_law_420 : InsA md_L_law 420 (.iload 16) 2 422 := ⟨at_420, rfl⟩
theorem o_L_law_422 : InsA md_L_law 422 (.iload 11) 2 424 := ⟨at_422, rfl⟩
theorem o_L_law_424 : InsA md_L_law 424 (.iadd) 1 425 := ⟨at_424, rfl⟩
theorem o_L_law_425 : InsA md_L_law 425 (.istore 16) 2 427 := ⟨at_425, rfl⟩
theorem o_L_law_427 : InsB md_L_law 427 (.goto 11) 3 430 (11) 438 := ⟨at_427, rfl, by decide, by decide⟩
theorem o_L_law_430 : InsA md_L_law 430 (.iload 21) 2 432 := ⟨at_430, rfl⟩
theorem o_L_law_432 : InsA md_L_law 432 (.iconst (-1)) 1 433 := ⟨at_432, rfl⟩
theorem o_L_law_433 : InsB md_L_law 433 (.if_icmp .eq 5) 3 436 (5) 438 := ⟨at_433, rfl, by decide, by decide⟩
theorem o_L_law_436 : InsA md_L_law 436 (.iconst 0) 1 437 := ⟨at_436, rfl⟩
theorem o_L_law_437 : InsA md_L_law 437 (.ireturn) 1 438 := ⟨at_437, rfl⟩
theorem o_L_law_438 : InsA md_L_law 438 (.iinc 17 1) 3 441 := ⟨at_438, rfl⟩
theorem o_L_law_441 : InsB md_L_law 441 (.goto (-258)) 3 444 (-258) 183 := ⟨at_441, rfl, by decide, by decide⟩
theorem o_L_law_444 : InsA md_L_law 444 (.aload 12) 2 446 := ⟨at_444, rfl⟩
theorem o_L_law_446 : InsA md_L_law 446 (.iconst 0) 1 447 := ⟨at_446, rfl⟩
theorem o_L_law_447 : InsA md_L_law 447 (.invokevirtual 30) 3 450 := ⟨at_447, rfl⟩
theorem o_L_law_450 : InsA md_L_law 450 (.iload 15) 2 452 := ⟨at_450, rfl⟩
theorem o_L_law_452 : InsB md_L_law 452 (.if_icmp .ne 14) 3 455 (14) 466 := ⟨at_452, rfl, by decide, by decide⟩
theorem o_L_law_455 : InsA md_L_law 455 (.aload 12) 2 457 := ⟨at_455, rfl⟩
theorem o_L_law_457 : InsA md_L_law 457 (.iconst 1) 1 458 := ⟨at_457, rfl⟩
theorem o_L_law_458 : InsA md_L_law 458 (.invokevirtual 30) 3 461 := ⟨at_458, rfl⟩
theorem o_L_law_461 : InsA md_L_law 461 (.iload 16) 2 463 := ⟨at_461, rfl⟩
theorem o_L_law_463 : InsB md_L_law 463 (.if_icmp .eq 5) 3 466 (5) 468 := ⟨at_463, rfl, by decide, by decide⟩
theorem o_L_law_466 : InsA md_L_law 466 (.iconst 0) 1 467 := ⟨at_466, rfl⟩
theorem o_L_law_467 : InsA md_L_law 467 (.ireturn) 1 468 := ⟨at_467, rfl⟩
theorem o_L_law_468 : InsA md_L_law 468 (.aload 12) 2 470 := ⟨at_468, rfl⟩
theorem o_L_law_470 : InsA md_L_law 470 (.iconst 0) 1 471 := ⟨at_470, rfl⟩
theorem o_L_law_471 : InsA md_L_law 471 (.iconst 0) 1 472 := ⟨at_471, rfl⟩
theorem o_L_law_472 : InsA md_L_law 472 (.invokevirtual 34) 3 475 := ⟨at_472, rfl⟩
theorem o_L_law_475 : InsA md_L_law 475 (.iload 13) 2 477 := ⟨at_475, rfl⟩
theorem o_L_law_477 : InsA md_L_law 477 (.iload 8) 2 479 := ⟨at_477, rfl⟩
theorem o_L_law_479 : InsA md_L_law 479 (.imul) 1 480 := ⟨at_479, rfl⟩
theorem o_L_law_480 : InsB md_L_law 480 (.if_icmp .ne 18) 3 483 (18) 498 := ⟨at_480, rfl, by decide, by decide⟩
theorem o_L_law_483 : InsA md_L_law 483 (.aload 12) 2 485 := ⟨at_483, rfl⟩
theorem o_L_law_485 : InsA md_L_law 485 (.iconst 0) 1 486 := ⟨at_485, rfl⟩
theorem o_L_law_486 : InsA md_L_law 486 (.iconst 1) 1 487 := ⟨at_486, rfl⟩
theorem o_L_law_487 : InsA md_L_law 487 (.invokevirtual 34) 3 490 := ⟨at_487, rfl⟩
theorem o_L_law_490 : InsA md_L_law 490 (.iload 13) 2 492 := ⟨at_490, rfl⟩
theorem o_L_law_492 : InsA md_L_law 492 (.iload 9) 2 494 := ⟨at_492, rfl⟩
theorem o_L_law_494 : InsA md_L_law 494 (.imul) 1 495 := ⟨at_494, rfl⟩
theorem o_L_law_495 : InsB md_L_law 495 (.if_icmp .eq 5) 3 498 (5) 500 := ⟨at_495, rfl, by decide, by decide⟩
theorem o_L_law_498 : InsA md_L_law 498 (.iconst 0) 1 499 := ⟨at_498, rfl⟩
theorem o_L_law_499 : InsA md_L_law 499 (.ireturn) 1 500 := ⟨at_499, rfl⟩
theorem o_L_law_500 : InsA md_L_law 500 (.aload 12) 2 502 := ⟨at_500, rfl⟩
theorem o_L_law_502 : InsA md_L_law 502 (.iconst 1) 1 503 := ⟨at_502, rfl⟩
theorem o_L_law_503 : InsA md_L_law 503 (.iconst 0) 1 504 := ⟨at_503, rfl⟩
theorem o_L_law_504 : InsA md_L_law 504 (.invokevirtual 34) 3 507 := ⟨at_504, rfl⟩
theorem o_L_law_507 : InsA md_L_law 507 (.iload 14) 2 509 := ⟨at_507, rfl⟩
theorem o_L_law_509 : InsA md_L_law 509 (.iload 10) 2 511 := ⟨at_509, rfl⟩
theorem o_L_law_511 : InsA md_L_law 511 (.imul) 1 512 := ⟨at_511, rfl⟩
theorem o_L_law_512 : InsB md_L_law 512 (.if_icmp .ne 18) 3 515 (18) 530 := ⟨at_512, rfl, by decide, by decide⟩
theorem o_L_law_515 : InsA md_L_law 515 (.aload 12) 2 517 := ⟨at_515, rfl⟩
theorem o_L_law_517 : InsA md_L_law 517 (.iconst 1) 1 518 := ⟨at_517, rfl⟩
theorem o_L_law_518 : InsA md_L_law 518 (.iconst 1) 1 519 := ⟨at_518, rfl⟩
theorem o_L_law_519 : InsA md_L_law 519 (.invokevirtual 34) 3 522 := ⟨at_519, rfl⟩
theorem o_L_law_522 : InsA md_L_law 522 (.iload 14) 2 524 := ⟨at_522, rfl⟩
theorem o_L_law_524 : InsA md_L_law 524 (.iload 11) 2 526 := ⟨at_524, rfl⟩
theorem o_L_law_526 : InsA md_L_law 526 (.imul) 1 527 := ⟨at_526, rfl⟩
theorem o_L_law_527 : InsB md_L_law 527 (.if_icmp .eq 5) 3 530 (5) 532 := ⟨at_527, rfl, by decide, by decide⟩
theorem o_L_law_530 : InsA md_L_law 530 (.iconst 0) 1 531 := ⟨at_530, rfl⟩
theorem o_L_law_531 : InsA md_L_law 531 (.ireturn) 1 532 := ⟨at_531, rfl⟩
theorem o_L_law_532 : InsA md_L_law 532 (.iload 13) 2 534 := ⟨at_532, rfl⟩
theorem o_L_law_534 : InsA md_L_law 534 (.iload 8) 2 536 := ⟨at_534, rfl⟩
theorem o_L_law_536 : InsA md_L_law 536 (.imul) 1 537 := ⟨at_536, rfl⟩
theorem o_L_law_537 : InsA md_L_law 537 (.i2l) 1 538 := ⟨at_537, rfl⟩
theorem o_L_law_538 : InsA md_L_law 538 (.iload 13) 2 540 := ⟨at_538, rfl⟩
theorem o_L_law_540 : InsA md_L_law 540 (.iload 9) 2 542 := ⟨at_540, rfl⟩
theorem o_L_law_542 : InsA md_L_law 542 (.imul) 1 543 := ⟨at_542, rfl⟩
theorem o_L_law_543 : InsA md_L_law 543 (.i2l) 1 544 := ⟨at_543, rfl⟩
theorem o_L_law_544 : InsA md_L_law 544 (.iload 6) 2 546 := ⟨at_544, rfl⟩
theorem o_L_law_546 : InsA md_L_law 546 (.i2l) 1 547 := ⟨at_546, rfl⟩
theorem o_L_law_547 : InsA md_L_law 547 (.iload 7) 2 549 := ⟨at_547, rfl⟩
theorem o_L_law_549 : InsA md_L_law 549 (.i2l) 1 550 := ⟨at_549, rfl⟩
theorem o_L_law_550 : InsA md_L_law 550 (.invokestatic 20) 3 553 := ⟨at_550, rfl⟩
theorem o_L_law_553 : InsA md_L_law 553 (.lstore 17) 2 555 := ⟨at_553, rfl⟩
theorem o_L_law_555 : InsA md_L_law 555 (.iload 14) 2 557 := ⟨at_555, rfl⟩
theorem o_L_law_557 : InsA md_L_law 557 (.iload 10) 2 559 := ⟨at_557, rfl⟩
theorem o_L_law_559 : InsA md_L_law 559 (.imul) 1 560 := ⟨at_559, rfl⟩
theorem o_L_law_560 : InsA md_L_law 560 (.i2l) 1 561 := ⟨at_560, rfl⟩
theorem o_L_law_561 : InsA md_L_law 561 (.iload 14) 2 563 := ⟨at_561, rfl⟩
theorem o_L_law_563 : InsA md_L_law 563 (.iload 11) 2 565 := ⟨at_563, rfl⟩
theorem o_L_law_565 : InsA md_L_law 565 (.imul) 1 566 := ⟨at_565, rfl⟩
theorem o_L_law_566 : InsA md_L_law 566 (.i2l) 1 567 := ⟨at_566, rfl⟩
theorem o_L_law_567 : InsA md_L_law 567 (.iload 6) 2 569 := ⟨at_567, rfl⟩
theorem o_L_law_569 : InsA md_L_law 569 (.i2l) 1 570 := ⟨at_569, rfl⟩
theorem o_L_law_570 : InsA md_L_law 570 (.iload 7) 2 572 := ⟨at_570, rfl⟩
theorem o_L_law_572 : InsA md_L_law 572 (.i2l) 1 573 := ⟨at_572, rfl⟩
theorem o_L_law_573 : InsA md_L_law 573 (.invokestatic 20) 3 576 := ⟨at_573, rfl⟩
theorem o_L_law_576 : InsA md_L_law 576 (.lstore 19) 2 578 := ⟨at_576, rfl⟩
theorem o_L_law_578 : InsA md_L_law 578 (.lload 17) 2 580 := ⟨at_578, rfl⟩
theorem o_L_law_580 : InsA md_L_law 580 (.lload 19) 2 582 := ⟨at_580, rfl⟩
theorem o_L_law_582 : InsA md_L_law 582 (.lcmp) 1 583 := ⟨at_582, rfl⟩
theorem o_L_law_583 : InsB md_L_law 583 (.ifCond .ge 7) 3 586 (7) 590 := ⟨at_583, rfl, by decide, by decide⟩
theorem o_L_law_586 : InsA md_L_law 586 (.iconst (-1)) 1 587 := ⟨at_586, rfl⟩
theorem o_L_law_587 : InsB md_L_law 587 (.goto 16) 3 590 (16) 603 := ⟨at_587, rfl, by decide, by decide⟩
theorem o_L_law_590 : InsA md_L_law 590 (.lload 17) 2 592 := ⟨at_590, rfl⟩
theorem o_L_law_592 : InsA md_L_law 592 (.lload 19) 2 594 := ⟨at_592, rfl⟩
theorem o_L_law_594 : InsA md_L_law 594 (.lcmp) 1 595 := ⟨at_594, rfl⟩
theorem o_L_law_595 : InsB md_L_law 595 (.ifCond .le 7) 3 598 (7) 602 := ⟨at_595, rfl, by decide, by decide⟩
theorem o_L_law_598 : InsA md_L_law 598 (.iconst 1) 1 599 := ⟨at_598, rfl⟩
theorem o_L_law_599 : InsB md_L_law 599 (.goto 4) 3 602 (4) 603 := ⟨at_599, rfl, by decide, by decide⟩
theorem o_L_law_602 : InsA md_L_law 602 (.iconst 0) 1 603 := ⟨at_602, rfl⟩
theorem o_L_law_603 : InsA md_L_law 603 (.istore 21) 2 605 := ⟨at_603, rfl⟩
theorem o_L_law_605 : InsA md_L_law 605 (.aload 12) 2 607 := ⟨at_605, rfl⟩
theorem o_L_law_607 : InsA md_L_law 607 (.iconst 0) 1 608 := ⟨at_607, rfl⟩
theorem o_L_law_608 : InsA md_L_law 608 (.iconst 1) 1 609 := ⟨at_608, rfl⟩
theorem o_L_law_609 : InsA md_L_law 609 (.invokevirtual 37) 3 612 := ⟨at_609, rfl⟩
theorem o_L_law_612 : InsA md_L_law 612 (.iload 21) 2 614 := ⟨at_612, rfl⟩
theorem o_L_law_614 : InsB md_L_law 614 (.if_icmp .ne 7) 3 617 (7) 621 := ⟨at_614, rfl, by decide, by decide⟩
theorem o_L_law_617 : InsA md_L_law 617 (.iconst 1) 1 618 := ⟨at_617, rfl⟩
theorem o_L_law_618 : InsB md_L_law 618 (.goto 4) 3 621 (4) 622 := ⟨at_618, rfl, by decide, by decide⟩
theorem o_L_law_621 : InsA md_L_law 621 (.iconst 0) 1 622 := ⟨at_621, rfl⟩
theorem o_L_law_622 : InsA md_L_law 622 (.ireturn) 1 623 := ⟨at_622, rfl⟩
theorem gd {c : Prop} [Decidable c] {α : Type} {x : Option α} {r : α} (h : (if c then x else none) = some r) : c ∧ x = some r := by
  by_cases q : c
  · rw [if_pos q] at h; exact ⟨q, h⟩
  · rw [if_neg q] at h; cases h
theorem ifp {c : Prop} [Decidable c] {α : Type} {x y z : α} (q : c) (h : (if c then x else y) = z) : x = z := by rw [if_pos q] at h; exact h
theorem ifn {c : Prop} [Decidable c] {α : Type} {x y z : α} (q : ¬ c) (h : (if c then x else y) = z) : y = z := by rw [if_neg q] at h; exact h
theorem getD_some {α : Type} {o : Option α} {d r : α} (h : o = some r) : o.getD d = r := by rw [h]; rfl
set_option maxRecDepth 65536 in
set_option maxHeartbeats 4000000 in
theorem wp_clampInt {l : Launch} {Z : State} {a0 : Array Value} (H : OK Z a0) (F : Nat → Int32) (G : Nat → Int64) (A : Nat → Int32 → Int32) (B : Nat → Int32 → Int64) (p1 : Int32) (p2 : Int32) (p3 : Int32) {Q : Option Value → WO → Prop} (h3 : ¬ p1 < p2 → ¬ p3 < p1 → Q (some (.int p1)) (15, F, G, A, B)) (h4 : ¬ p1 < p2 → p3 < p1 → Q (some (.int p3)) (15, F, G, A, B)) (h5 : p1 < p2 → Q (some (.int p2)) (15, F, G, A, B)) :
    Wk l Z (MoC Z cdC) md_clampInt 0 [.val (.ref 0), .val (.int p1), .val (.int p2), .val (.int p3)] [] (15, F, G, A, B) 0 0 Q := by
  refine Wk.iloadN o_clampInt_0 rfl ?_
  refine Wk.iloadN o_clampInt_1 rfl ?_
  refine Wk.icmp_ge o_clampInt_2 (fun q1 => ?_) (fun q1 => ?_)
  · refine Wk.iloadN o_clampInt_7 rfl ?_
    refine Wk.iloadN o_clampInt_8 rfl ?_
    refine Wk.icmp_le o_clampInt_9 (fun q2 => ?_) (fun q2 => ?_)
    · refine Wk.iloadN o_clampInt_14 rfl ?_
      exact Wk.ireturn mrC rfl o_clampInt_15 rfl (by decide) (by decide) (h3 q1 q2)
    · refine Wk.iloadN o_clampInt_12 rfl ?_
      exact Wk.ireturn mrC rfl o_clampInt_13 rfl (by decide) (by decide) (h4 q1 q2)
  · refine Wk.iloadN o_clampInt_5 rfl ?_
    exact Wk.ireturn mrC rfl o_clampInt_6 rfl (by decide) (by decide) (h5 q1)

def f_clampInt (p1 : Int32) (p2 : Int32) (p3 : Int32) : Int32 := (if p1 < p2 then p2 else (if p3 < p1 then p3 else p1))
theorem e_clampInt (p1 : Int32) (p2 : Int32) (p3 : Int32) : f_clampInt p1 p2 p3 = (if p1 < p2 then p2 else (if p3 < p1 then p3 else p1)) := Eq.trans rfl rfl
theorem run_clampInt {l : Launch} {Z : State} {a0 : Array Value} (H : OK Z a0) (F : Nat → Int32) (G : Nat → Int64) (A : Nat → Int32 → Int32) (B : Nat → Int32 → Int64) (p1 : Int32) (p2 : Int32) (p3 : Int32) :
    Wk l Z (MoC Z cdC) md_clampInt 0 [.val (.ref 0), .val (.int p1), .val (.int p2), .val (.int p3)] [] (15, F, G, A, B) 0 0 (fun v w' => v = some (.int (f_clampInt p1 p2 p3)) ∧ w' = (15, F, G, A, B)) :=
  wp_clampInt H F G A B p1 p2 p3 (fun q1 q2 => ⟨by simp only [e_clampInt, if_neg q1, if_neg q2], rfl⟩) (fun q1 q2 => ⟨by simp only [e_clampInt, if_neg q1, if_pos q2], rfl⟩) (fun q1 => ⟨by simp only [e_clampInt, if_pos q1], rfl⟩)
set_option maxRecDepth 65536 in
set_option maxHeartbeats 4000000 in
theorem wp_allocIndex {l : Launch} {Z : State} {a0 : Array Value} (H : OK Z a0) (F : Nat → Int32) (G : Nat → Int64) (A : Nat → Int32 → Int32) (B : Nat → Int32 → Int64) (p1 : Int32) (p2 : Int32) {Q : Option Value → WO → Prop} (h1 : Q (some (.int ((p1 * (3 : Int32)) + p2))) (15, F, G, A, B)) :
    Wk l Z (MoC Z cdC) md_allocIndex 0 [.val (.ref 0), .val (.int p1), .val (.int p2)] [] (15, F, G, A, B) 0 0 Q := by
  refine Wk.iloadN o_allocIndex_0 rfl ?_
  refine Wk.iconst o_allocIndex_1 (z := (3 : Int32)) (by decide) ?_
  refine Wk.imul o_allocIndex_2 ?_
  refine Wk.iloadN o_allocIndex_3 rfl ?_
  refine Wk.iadd o_allocIndex_4 ?_
  exact Wk.ireturn mrC rfl o_allocIndex_5 rfl (by decide) (by decide) h1

def f_allocIndex (p1 : Int32) (p2 : Int32) : Int32 := ((p1 * (3 : Int32)) + p2)
theorem e_allocIndex (p1 : Int32) (p2 : Int32) : f_allocIndex p1 p2 = ((p1 * (3 : Int32)) + p2) := Eq.trans rfl rfl
theorem run_allocIndex {l : Launch} {Z : State} {a0 : Array Value} (H : OK Z a0) (F : Nat → Int32) (G : Nat → Int64) (A : Nat → Int32 → Int32) (B : Nat → Int32 → Int64) (p1 : Int32) (p2 : Int32) :
    Wk l Z (MoC Z cdC) md_allocIndex 0 [.val (.ref 0), .val (.int p1), .val (.int p2)] [] (15, F, G, A, B) 0 0 (fun v w' => v = some (.int (f_allocIndex p1 p2)) ∧ w' = (15, F, G, A, B)) :=
  wp_allocIndex H F G A B p1 p2 ⟨rfl, rfl⟩
set_option maxRecDepth 65536 in
set_option maxHeartbeats 4000000 in
theorem wp_resetUser {l : Launch} {Z : State} {a0 : Array Value} (H : OK Z a0) (F : Nat → Int32) (G : Nat → Int64) (A : Nat → Int32 → Int32) (B : Nat → Int32 → Int64) (p1 : Int32) {Q : Option Value → WO → Prop} (s1 : ¬ p1 < 0) (s2 : p1 < (8 : Int32)) (h3 : Wk l Z (MoC Z cdC) md_resetUser 45 [.val (.ref 0), .val (.int p1), .val (.int (0 : Int32))] [] (15, F, G, (ups (ups (ups (ups (ups (ups A 3 (ups (A 3) p1 (1 : Int32))) 4 (ups (A 4) p1 (32 : Int32))) 5 (ups (A 5) p1 (0 : Int32))) 6 (ups (A 6) p1 (0 : Int32))) 7 (ups (A 7) p1 (-1 : Int32))) 8 (ups (A 8) p1 (0 : Int32))), B) 0 0 Q) :
    Wk l Z (MoC Z cdC) md_resetUser 0 [.val (.ref 0), .val (.int p1), .unset] [] (15, F, G, A, B) 0 0 Q := by
  refine Wk.aloadN o_resetUser_0 rfl ?_
  refine Wk.getA (mA_userWeight) (by decide) (i' := 4) rfl (wf_userWeight H) o_resetUser_1 ?_
  refine Wk.iloadN o_resetUser_4 rfl ?_
  refine Wk.iconst o_resetUser_5 (z := (1 : Int32)) (by decide) ?_
  refine Wk.iastore (coC H) (f := (A 3)) (mA_userWeight) rfl (by decide) (i' := 4) rfl s1 s2 o_resetUser_6 ?_
  refine Wk.aloadN o_resetUser_7 rfl ?_
  refine Wk.getA (mA_userCap) (by decide) (i' := 5) rfl (wf_userCap H) o_resetUser_8 ?_
  refine Wk.iloadN o_resetUser_11 rfl ?_
  refine Wk.bipush o_resetUser_12 (z := (32 : Int32)) (by decide) ?_
  refine Wk.iastore (coC H) (f := (A 4)) (mA_userCap) rfl (by decide) (i' := 5) rfl s1 s2 o_resetUser_14 ?_
  refine Wk.aloadN o_resetUser_15 rfl ?_
  refine Wk.getA (mA_running) (by decide) (i' := 6) rfl (wf_running H) o_resetUser_16 ?_
  refine Wk.iloadN o_resetUser_19 rfl ?_
  refine Wk.iconst o_resetUser_20 (z := (0 : Int32)) (by decide) ?_
  refine Wk.iastore (coC H) (f := (A 5)) (mA_running) rfl (by decide) (i' := 6) rfl s1 s2 o_resetUser_21 ?_
  refine Wk.aloadN o_resetUser_22 rfl ?_
  refine Wk.getA (mA_pendingCount) (by decide) (i' := 7) rfl (wf_pendingCount H) o_resetUser_23 ?_
  refine Wk.iloadN o_resetUser_26 rfl ?_
  refine Wk.iconst o_resetUser_27 (z := (0 : Int32)) (by decide) ?_
  refine Wk.iastore (coC H) (f := (A 6)) (mA_pendingCount) rfl (by decide) (i' := 7) rfl s1 s2 o_resetUser_28 ?_
  refine Wk.aloadN o_resetUser_29 rfl ?_
  refine Wk.getA (mA_headSlot) (by decide) (i' := 8) rfl (wf_headSlot H) o_resetUser_30 ?_
  refine Wk.iloadN o_resetUser_33 rfl ?_
  refine Wk.iconst o_resetUser_34 (z := (-1 : Int32)) (by decide) ?_
  refine Wk.iastore (coC H) (f := (A 7)) (mA_headSlot) rfl (by decide) (i' := 8) rfl s1 s2 o_resetUser_35 ?_
  refine Wk.aloadN o_resetUser_36 rfl ?_
  refine Wk.getA (mA_domRes) (by decide) (i' := 9) rfl (wf_domRes H) o_resetUser_37 ?_
  refine Wk.iloadN o_resetUser_40 rfl ?_
  refine Wk.iconst o_resetUser_41 (z := (0 : Int32)) (by decide) ?_
  refine Wk.iastore (coC H) (f := (A 8)) (mA_domRes) rfl (by decide) (i' := 9) rfl s1 s2 o_resetUser_42 ?_
  refine Wk.iconst o_resetUser_43 (z := (0 : Int32)) (by decide) ?_
  refine Wk.istoreN o_resetUser_44 (Or.inl rfl) (L' := [.val (.ref 0), .val (.int p1), .val (.int (0 : Int32))]) rfl ?_
  exact h3

set_option maxRecDepth 65536 in
set_option maxHeartbeats 4000000 in
theorem wp_resetUser_45 {l : Launch} {Z : State} {a0 : Array Value} (H : OK Z a0) (F : Nat → Int32) (G : Nat → Int64) (A : Nat → Int32 → Int32) (B : Nat → Int32 → Int64) (v1 : Int32) (v2 : Int32) {Q : Option Value → WO → Prop} (h2 : ¬ v2 < (3 : Int32) → Q none (15, F, G, A, B)) (s3 : v2 < (3 : Int32) → ¬ (f_allocIndex v1 v2) < 0) (s4 : v2 < (3 : Int32) → (f_allocIndex v1 v2) < (24 : Int32)) (h5 : v2 < (3 : Int32) → Wk l Z (MoC Z cdC) md_resetUser 45 [.val (.ref 0), .val (.int v1), .val (.int (v2 + (1 : Int32)))] [] (15, F, G, (ups A 9 (ups (A 9) (f_allocIndex v1 v2) (0 : Int32))), B) 0 0 Q) :
    Wk l Z (MoC Z cdC) md_resetUser 45 [.val (.ref 0), .val (.int v1), .val (.int v2)] [] (15, F, G, A, B) 0 0 Q := by
  refine Wk.iloadN o_resetUser_45 rfl ?_
  refine Wk.iconst o_resetUser_46 (z := (3 : Int32)) (by decide) ?_
  refine Wk.icmp_ge o_resetUser_47 (fun q1 => ?_) (fun q1 => ?_)
  · exact Wk.ret mrC rfl o_resetUser_68 rfl (by decide) (by decide) (h2 q1)
  · refine Wk.aloadN o_resetUser_50 rfl ?_
    refine Wk.getA (mA_alloc) (by decide) (i' := 10) rfl (wf_alloc H) o_resetUser_51 ?_
    refine Wk.aloadN o_resetUser_54 rfl ?_
    refine Wk.iloadN o_resetUser_55 rfl ?_
    refine Wk.iloadN o_resetUser_56 rfl ?_
    refine Wk.callF [.int v1, .int v2] [.ref 10] (H.w 52 rfl) (cv_allocIndex H) o_resetUser_57 (run_allocIndex H F G A B v1 v2) (wt := 1) (cu' := 0) (su' := 0) (by decide) rfl rfl rfl rfl rfl rfl rfl ?_
    refine Wk.iconst o_resetUser_60 (z := (0 : Int32)) (by decide) ?_
    refine Wk.iastore (coC H) (f := (A 9)) (mA_alloc) rfl (by decide) (i' := 10) rfl (s3 q1) (s4 q1) o_resetUser_61 ?_
    refine Wk.iinc o_resetUser_62 rfl (z := (v2 + (1 : Int32))) rfl (L' := [.val (.ref 0), .val (.int v1), .val (.int (v2 + (1 : Int32)))]) rfl ?_
    refine Wk.goto o_resetUser_65 ?_
    exact (h5 q1)

theorem aix (p r : Int32) (h0 : ¬ p < 0) (h1 : p < 8) (r0 : ¬ r < 0) (r1 : r < 3) : ¬ f_allocIndex p r < 0 ∧ f_allocIndex p r < 24 := by
  rw [e_allocIndex]; grind
def w_rs (A : Nat → Int32 → Int32) (x : Int32) : Nat → Int32 → Int32 := ups A 9 (ups (A 9) x (0 : Int32))
def A_resetUser (A : Nat → Int32 → Int32) (p1 : Int32) : Nat → Int32 → Int32 := w_rs (w_rs (w_rs (ups (ups (ups (ups (ups (ups A 3 (ups (A 3) p1 (1 : Int32))) 4 (ups (A 4) p1 (32 : Int32))) 5 (ups (A 5) p1 (0 : Int32))) 6 (ups (A 6) p1 (0 : Int32))) 7 (ups (A 7) p1 (-1 : Int32))) 8 (ups (A 8) p1 (0 : Int32))) (f_allocIndex p1 (0 : Int32))) (f_allocIndex p1 ((0 : Int32) + (1 : Int32)))) (f_allocIndex p1 (((0 : Int32) + (1 : Int32)) + (1 : Int32)))
theorem eA_resetUser (A : Nat → Int32 → Int32) (p1 : Int32) : A_resetUser A p1 = w_rs (w_rs (w_rs (ups (ups (ups (ups (ups (ups A 3 (ups (A 3) p1 (1 : Int32))) 4 (ups (A 4) p1 (32 : Int32))) 5 (ups (A 5) p1 (0 : Int32))) 6 (ups (A 6) p1 (0 : Int32))) 7 (ups (A 7) p1 (-1 : Int32))) 8 (ups (A 8) p1 (0 : Int32))) (f_allocIndex p1 (0 : Int32))) (f_allocIndex p1 ((0 : Int32) + (1 : Int32)))) (f_allocIndex p1 (((0 : Int32) + (1 : Int32)) + (1 : Int32))) := Eq.trans rfl rfl
theorem run_resetUser {l : Launch} {Z : State} {a0 : Array Value} (H : OK Z a0) (F : Nat → Int32) (G : Nat → Int64) (A : Nat → Int32 → Int32) (B : Nat → Int32 → Int64) (p1 : Int32) (e1 : ¬ p1 < 0) (e2 : p1 < 8) : Wk l Z (MoC Z cdC) md_resetUser 0 [.val (.ref 0), .val (.int p1), .unset] [] (15, F, G, A, B) 0 0 (fun v w' => v = none ∧ w' = (15, F, G, (A_resetUser A p1), B)) := by
  refine wp_resetUser H F G A B p1 e1 e2 ?_
  refine wp_resetUser_45 H F G _ B p1 (0 : Int32) (fun h => absurd (by decide) h) (fun _ => (aix p1 (0 : Int32) e1 e2 (by decide) (by decide)).1) (fun _ => (aix p1 (0 : Int32) e1 e2 (by decide) (by decide)).2) (fun _ => ?_)
  refine wp_resetUser_45 H F G _ B p1 ((0 : Int32) + (1 : Int32)) (fun h => absurd (by decide) h) (fun _ => (aix p1 ((0 : Int32) + (1 : Int32)) e1 e2 (by decide) (by decide)).1) (fun _ => (aix p1 ((0 : Int32) + (1 : Int32)) e1 e2 (by decide) (by decide)).2) (fun _ => ?_)
  refine wp_resetUser_45 H F G _ B p1 (((0 : Int32) + (1 : Int32)) + (1 : Int32)) (fun h => absurd (by decide) h) (fun _ => (aix p1 (((0 : Int32) + (1 : Int32)) + (1 : Int32)) e1 e2 (by decide) (by decide)).1) (fun _ => (aix p1 (((0 : Int32) + (1 : Int32)) + (1 : Int32)) e1 e2 (by decide) (by decide)).2) (fun _ => ?_)
  exact wp_resetUser_45 H F G _ B p1 ((((0 : Int32) + (1 : Int32)) + (1 : Int32)) + (1 : Int32)) (fun _ => ⟨rfl, rfl⟩) (fun h => absurd h (by decide)) (fun h => absurd h (by decide)) (fun h => absurd h (by decide))
set_option maxRecDepth 65536 in
set_option maxHeartbeats 4000000 in
theorem wp_clearSlotFields {l : Launch} {Z : State} {a0 : Array Value} (H : OK Z a0) (F : Nat → Int32) (G : Nat → Int64) (A : Nat → Int32 → Int32) (B : Nat → Int32 → Int64) (p1 : Int32) {Q : Option Value → WO → Prop} (s1 : ¬ p1 < 0) (s2 : p1 < (32 : Int32)) (h3 : Wk l Z (MoC Z cdC) md_clearSlotFields 30 [.val (.ref 0), .val (.int p1), .val (.int (0 : Int32))] [] (15, F, G, (ups (ups (ups A 10 (ups (A 10) p1 (0 : Int32))) 11 (ups (A 11) p1 (-1 : Int32))) 12 (ups (A 12) p1 (0 : Int32))), (ups B 14 (ups (B 14) p1 (0 : Int64)))) 0 0 Q) :
    Wk l Z (MoC Z cdC) md_clearSlotFields 0 [.val (.ref 0), .val (.int p1), .unset] [] (15, F, G, A, B) 0 0 Q := by
  refine Wk.aloadN o_clearSlotFields_0 rfl ?_
  refine Wk.getA (mA_slotState) (by decide) (i' := 11) rfl (wf_slotState H) o_clearSlotFields_1 ?_
  refine Wk.iloadN o_clearSlotFields_4 rfl ?_
  refine Wk.iconst o_clearSlotFields_5 (z := (0 : Int32)) (by decide) ?_
  refine Wk.iastore (coC H) (f := (A 10)) (mA_slotState) rfl (by decide) (i' := 11) rfl s1 s2 o_clearSlotFields_6 ?_
  refine Wk.aloadN o_clearSlotFields_7 rfl ?_
  refine Wk.getA (mA_slotUser) (by decide) (i' := 12) rfl (wf_slotUser H) o_clearSlotFields_8 ?_
  refine Wk.iloadN o_clearSlotFields_11 rfl ?_
  refine Wk.iconst o_clearSlotFields_12 (z := (-1 : Int32)) (by decide) ?_
  refine Wk.iastore (coC H) (f := (A 11)) (mA_slotUser) rfl (by decide) (i' := 12) rfl s1 s2 o_clearSlotFields_13 ?_
  refine Wk.aloadN o_clearSlotFields_14 rfl ?_
  refine Wk.getA (mA_slotGang) (by decide) (i' := 13) rfl (wf_slotGang H) o_clearSlotFields_15 ?_
  refine Wk.iloadN o_clearSlotFields_18 rfl ?_
  refine Wk.iconst o_clearSlotFields_19 (z := (0 : Int32)) (by decide) ?_
  refine Wk.iastore (coC H) (f := (A 12)) (mA_slotGang) rfl (by decide) (i' := 13) rfl s1 s2 o_clearSlotFields_20 ?_
  refine Wk.aloadN o_clearSlotFields_21 rfl ?_
  refine Wk.getA (mA_slotSeq) (by decide) (i' := 15) rfl (wf_slotSeq H) o_clearSlotFields_22 ?_
  refine Wk.iloadN o_clearSlotFields_25 rfl ?_
  refine Wk.lconst o_clearSlotFields_26 (z := (0 : Int64)) (by decide) ?_
  refine Wk.lastore (coC H) (f := (B 14)) (mA_slotSeq) rfl (by decide) (i' := 15) rfl s1 s2 o_clearSlotFields_27 ?_
  refine Wk.iconst o_clearSlotFields_28 (z := (0 : Int32)) (by decide) ?_
  refine Wk.istoreN o_clearSlotFields_29 (Or.inl rfl) (L' := [.val (.ref 0), .val (.int p1), .val (.int (0 : Int32))]) rfl ?_
  exact h3

set_option maxRecDepth 65536 in
set_option maxHeartbeats 4000000 in
theorem wp_clearSlotFields_30 {l : Launch} {Z : State} {a0 : Array Value} (H : OK Z a0) (F : Nat → Int32) (G : Nat → Int64) (A : Nat → Int32 → Int32) (B : Nat → Int32 → Int64) (v1 : Int32) (v2 : Int32) {Q : Option Value → WO → Prop} (h2 : ¬ v2 < (3 : Int32) → Q none (15, F, G, A, B)) (s3 : v2 < (3 : Int32) → ¬ ((v1 * (3 : Int32)) + v2) < 0) (s4 : v2 < (3 : Int32) → ((v1 * (3 : Int32)) + v2) < (96 : Int32)) (h5 : v2 < (3 : Int32) → Wk l Z (MoC Z cdC) md_clearSlotFields 30 [.val (.ref 0), .val (.int v1), .val (.int (v2 + (1 : Int32)))] [] (15, F, G, (ups A 13 (ups (A 13) ((v1 * (3 : Int32)) + v2) (0 : Int32))), B) 0 0 Q) :
    Wk l Z (MoC Z cdC) md_clearSlotFields 30 [.val (.ref 0), .val (.int v1), .val (.int v2)] [] (15, F, G, A, B) 0 0 Q := by
  refine Wk.iloadN o_clearSlotFields_30 rfl ?_
  refine Wk.iconst o_clearSlotFields_31 (z := (3 : Int32)) (by decide) ?_
  refine Wk.icmp_ge o_clearSlotFields_32 (fun q1 => ?_) (fun q1 => ?_)
  · exact Wk.ret mrC rfl o_clearSlotFields_52 rfl (by decide) (by decide) (h2 q1)
  · refine Wk.aloadN o_clearSlotFields_35 rfl ?_
    refine Wk.getA (mA_slotDemand) (by decide) (i' := 14) rfl (wf_slotDemand H) o_clearSlotFields_36 ?_
    refine Wk.iloadN o_clearSlotFields_39 rfl ?_
    refine Wk.iconst o_clearSlotFields_40 (z := (3 : Int32)) (by decide) ?_
    refine Wk.imul o_clearSlotFields_41 ?_
    refine Wk.iloadN o_clearSlotFields_42 rfl ?_
    refine Wk.iadd o_clearSlotFields_43 ?_
    refine Wk.iconst o_clearSlotFields_44 (z := (0 : Int32)) (by decide) ?_
    refine Wk.iastore (coC H) (f := (A 13)) (mA_slotDemand) rfl (by decide) (i' := 14) rfl (s3 q1) (s4 q1) o_clearSlotFields_45 ?_
    refine Wk.iinc o_clearSlotFields_46 rfl (z := (v2 + (1 : Int32))) rfl (L' := [.val (.ref 0), .val (.int v1), .val (.int (v2 + (1 : Int32)))]) rfl ?_
    refine Wk.goto o_clearSlotFields_49 ?_
    exact (h5 q1)

theorem six (p r : Int32) (h0 : ¬ p < 0) (h1 : p < 32) (r0 : ¬ r < 0) (r1 : r < 3) : ¬ ((p * 3) + r) < 0 ∧ ((p * 3) + r) < 96 := by
  grind
def w_sd (A : Nat → Int32 → Int32) (x : Int32) : Nat → Int32 → Int32 := ups A 13 (ups (A 13) x (0 : Int32))
def A_clearSlotFields (A : Nat → Int32 → Int32) (p1 : Int32) : Nat → Int32 → Int32 := w_sd (w_sd (w_sd (ups (ups (ups A 10 (ups (A 10) p1 (0 : Int32))) 11 (ups (A 11) p1 (-1 : Int32))) 12 (ups (A 12) p1 (0 : Int32))) (p1 * 3 + (0 : Int32))) (p1 * 3 + ((0 : Int32) + (1 : Int32)))) (p1 * 3 + (((0 : Int32) + (1 : Int32)) + (1 : Int32)))
theorem eA_clearSlotFields (A : Nat → Int32 → Int32) (p1 : Int32) : A_clearSlotFields A p1 = w_sd (w_sd (w_sd (ups (ups (ups A 10 (ups (A 10) p1 (0 : Int32))) 11 (ups (A 11) p1 (-1 : Int32))) 12 (ups (A 12) p1 (0 : Int32))) (p1 * 3 + (0 : Int32))) (p1 * 3 + ((0 : Int32) + (1 : Int32)))) (p1 * 3 + (((0 : Int32) + (1 : Int32)) + (1 : Int32))) := Eq.trans rfl rfl
def B_clearSlotFields (B : Nat → Int32 → Int64) (p1 : Int32) : Nat → Int32 → Int64 := (ups B 14 (ups (B 14) p1 (0 : Int64)))
theorem eB_clearSlotFields (B : Nat → Int32 → Int64) (p1 : Int32) : B_clearSlotFields B p1 = (ups B 14 (ups (B 14) p1 (0 : Int64))) := Eq.trans rfl rfl
theorem run_clearSlotFields {l : Launch} {Z : State} {a0 : Array Value} (H : OK Z a0) (F : Nat → Int32) (G : Nat → Int64) (A : Nat → Int32 → Int32) (B : Nat → Int32 → Int64) (p1 : Int32) (e1 : ¬ p1 < 0) (e2 : p1 < 32) : Wk l Z (MoC Z cdC) md_clearSlotFields 0 [.val (.ref 0), .val (.int p1), .unset] [] (15, F, G, A, B) 0 0 (fun v w' => v = none ∧ w' = (15, F, G, (A_clearSlotFields A p1), (B_clearSlotFields B p1))) := by
  refine wp_clearSlotFields H F G A B p1 e1 e2 ?_
  refine wp_clearSlotFields_30 H F G _ _ p1 (0 : Int32) (fun h => absurd (by decide) h) (fun _ => (six p1 (0 : Int32) e1 e2 (by decide) (by decide)).1) (fun _ => (six p1 (0 : Int32) e1 e2 (by decide) (by decide)).2) (fun _ => ?_)
  refine wp_clearSlotFields_30 H F G _ _ p1 ((0 : Int32) + (1 : Int32)) (fun h => absurd (by decide) h) (fun _ => (six p1 ((0 : Int32) + (1 : Int32)) e1 e2 (by decide) (by decide)).1) (fun _ => (six p1 ((0 : Int32) + (1 : Int32)) e1 e2 (by decide) (by decide)).2) (fun _ => ?_)
  refine wp_clearSlotFields_30 H F G _ _ p1 (((0 : Int32) + (1 : Int32)) + (1 : Int32)) (fun h => absurd (by decide) h) (fun _ => (six p1 (((0 : Int32) + (1 : Int32)) + (1 : Int32)) e1 e2 (by decide) (by decide)).1) (fun _ => (six p1 (((0 : Int32) + (1 : Int32)) + (1 : Int32)) e1 e2 (by decide) (by decide)).2) (fun _ => ?_)
  exact wp_clearSlotFields_30 H F G _ _ p1 ((((0 : Int32) + (1 : Int32)) + (1 : Int32)) + (1 : Int32)) (fun _ => ⟨rfl, rfl⟩) (fun h => absurd h (by decide)) (fun h => absurd h (by decide)) (fun h => absurd h (by decide))
def itS {σ : Type} (f : σ → Int32 → σ) : Nat → Int32 → σ → σ
  | 0, _, s => s
  | n + 1, i, s => itS f n (i + 1) (f s i)
theorem itS_inv {σ : Type} (f : σ → Int32 → σ) (P : σ → Prop) (h : ∀ s i, P s → P (f s i)) : ∀ (n : Nat) (i : Int32) (s : σ), P s → P (itS f n i s)
  | 0, _, _, hs => hs
  | n + 1, i, s, hs => itS_inv f P h n (i + 1) (f s i) (h s i hs)
theorem itUp {σ : Type} (At : Int32 → σ → Prop) (f : σ → Int32 → σ) (n : Int32) (hs : ∀ i s, ¬ i < 0 → i < n → At (i + 1) (f s i) → At i s) :
    ∀ (k : Nat) (i : Int32) (s : σ), ¬ i < 0 → i.toInt + k = n.toInt → At n (itS f k i s) → At i s
  | 0, i, s, _, hk, h => by
    have e : i = n := Int32.toInt_inj.mp (by omega)
    subst e; exact h
  | k + 1, i, s, h0, hk, h => by
    have hlt : i < n := lt_i.mpr (by omega)
    have e := succ_toInt hlt
    refine hs i s h0 hlt (itUp At f n hs k (i + 1) (f s i) ?_ (by omega) h)
    have z : (0 : Int32).toInt = 0 := by decide
    rw [lt_i] at h0 ⊢; omega
set_option maxRecDepth 65536 in
set_option maxHeartbeats 4000000 in
theorem wp_init {l : Launch} {Z : State} {a0 : Array Value} (H : OK Z a0) (p1 : Int32) (p2 : Int32) (p3 : Int32) (p4 : Int32) {Q : Option Value → WO → Prop} (h1 : Wk l Z (MoC Z cdC) md_init 179 [.val (.ref 0), .unset, .unset, .unset, .unset, .val (.int (0 : Int32))] [] (15, (ups (fun _ => 0) 0 (f_clampInt p4 (2 : Int32) (8 : Int32))), (fun _ => 0), (ups (ups (ups (fun _ _ => 0) 0 (ups ((fun _ _ => 0) 0) (0 : Int32) (f_clampInt p1 (1 : Int32) (1000000 : Int32)))) 0 (ups (ups ((fun _ _ => 0) 0) (0 : Int32) (f_clampInt p1 (1 : Int32) (1000000 : Int32))) (1 : Int32) (f_clampInt p2 (1 : Int32) (1000000 : Int32)))) 0 (ups (ups (ups ((fun _ _ => 0) 0) (0 : Int32) (f_clampInt p1 (1 : Int32) (1000000 : Int32))) (1 : Int32) (f_clampInt p2 (1 : Int32) (1000000 : Int32))) (2 : Int32) (f_clampInt p3 (1 : Int32) (1000000 : Int32)))), (fun _ _ => 0)) 15 305 Q) :
    Wk l Z (MoC Z cdC) md_init 0 [.val (.ref 0), .val (.int p1), .val (.int p2), .val (.int p3), .val (.int p4), .unset] [] (0, (fun _ => 0), (fun _ => 0), (fun _ _ => 0), (fun _ _ => 0)) 0 0 Q := by
  refine Wk.aloadN o_init_0 rfl ?_
  refine Wk.initO (H.w 6 rfl) (H.w 7 rfl) (H.w 8 rfl) o_init_1 rfl (by decide) (by decide) ?_
  refine Wk.aloadN o_init_4 rfl ?_
  refine Wk.iconst o_init_5 (z := (3 : Int32)) (by decide) ?_
  refine Wk.newA (coC H) (aty := .int) rfl (wa_int H) (mA_capRes) (wf_capRes H) (Or.inr ⟨wy_capRes H, rfl⟩) o_init_6 o_init_8 rfl rfl (k' := 1) rfl (cu' := 1) rfl (su' := 3) rfl (by decide) (by decide) (by decide) ?_
  refine Wk.aloadN o_init_11 rfl ?_
  refine Wk.iconst o_init_12 (z := (3 : Int32)) (by decide) ?_
  refine Wk.newA (coC H) (aty := .int) rfl (wa_int H) (mA_usedRes) (wf_usedRes H) (Or.inr ⟨wy_usedRes H, rfl⟩) o_init_13 o_init_15 rfl rfl (k' := 2) rfl (cu' := 2) rfl (su' := 6) rfl (by decide) (by decide) (by decide) ?_
  refine Wk.aloadN o_init_18 rfl ?_
  refine Wk.iconst o_init_19 (z := (3 : Int32)) (by decide) ?_
  refine Wk.newA (coC H) (aty := .int) rfl (wa_int H) (mA_staged) (wf_staged H) (Or.inr ⟨wy_staged H, rfl⟩) o_init_20 o_init_22 rfl rfl (k' := 3) rfl (cu' := 3) rfl (su' := 9) rfl (by decide) (by decide) (by decide) ?_
  refine Wk.aloadN o_init_25 rfl ?_
  refine Wk.bipush o_init_26 (z := (8 : Int32)) (by decide) ?_
  refine Wk.newA (coC H) (aty := .int) rfl (wa_int H) (mA_userWeight) (wf_userWeight H) (Or.inr ⟨wy_userWeight H, rfl⟩) o_init_28 o_init_30 rfl rfl (k' := 4) rfl (cu' := 4) rfl (su' := 17) rfl (by decide) (by decide) (by decide) ?_
  refine Wk.aloadN o_init_33 rfl ?_
  refine Wk.bipush o_init_34 (z := (8 : Int32)) (by decide) ?_
  refine Wk.newA (coC H) (aty := .int) rfl (wa_int H) (mA_userCap) (wf_userCap H) (Or.inr ⟨wy_userCap H, rfl⟩) o_init_36 o_init_38 rfl rfl (k' := 5) rfl (cu' := 5) rfl (su' := 25) rfl (by decide) (by decide) (by decide) ?_
  refine Wk.aloadN o_init_41 rfl ?_
  refine Wk.bipush o_init_42 (z := (8 : Int32)) (by decide) ?_
  refine Wk.newA (coC H) (aty := .int) rfl (wa_int H) (mA_running) (wf_running H) (Or.inr ⟨wy_running H, rfl⟩) o_init_44 o_init_46 rfl rfl (k' := 6) rfl (cu' := 6) rfl (su' := 33) rfl (by decide) (by decide) (by decide) ?_
  refine Wk.aloadN o_init_49 rfl ?_
  refine Wk.bipush o_init_50 (z := (8 : Int32)) (by decide) ?_
  refine Wk.newA (coC H) (aty := .int) rfl (wa_int H) (mA_pendingCount) (wf_pendingCount H) (Or.inr ⟨wy_pendingCount H, rfl⟩) o_init_52 o_init_54 rfl rfl (k' := 7) rfl (cu' := 7) rfl (su' := 41) rfl (by decide) (by decide) (by decide) ?_
  refine Wk.aloadN o_init_57 rfl ?_
  refine Wk.bipush o_init_58 (z := (8 : Int32)) (by decide) ?_
  refine Wk.newA (coC H) (aty := .int) rfl (wa_int H) (mA_headSlot) (wf_headSlot H) (Or.inr ⟨wy_headSlot H, rfl⟩) o_init_60 o_init_62 rfl rfl (k' := 8) rfl (cu' := 8) rfl (su' := 49) rfl (by decide) (by decide) (by decide) ?_
  refine Wk.aloadN o_init_65 rfl ?_
  refine Wk.bipush o_init_66 (z := (8 : Int32)) (by decide) ?_
  refine Wk.newA (coC H) (aty := .int) rfl (wa_int H) (mA_domRes) (wf_domRes H) (Or.inr ⟨wy_domRes H, rfl⟩) o_init_68 o_init_70 rfl rfl (k' := 9) rfl (cu' := 9) rfl (su' := 57) rfl (by decide) (by decide) (by decide) ?_
  refine Wk.aloadN o_init_73 rfl ?_
  refine Wk.bipush o_init_74 (z := (24 : Int32)) (by decide) ?_
  refine Wk.newA (coC H) (aty := .int) rfl (wa_int H) (mA_alloc) (wf_alloc H) (Or.inr ⟨wy_alloc H, rfl⟩) o_init_76 o_init_78 rfl rfl (k' := 10) rfl (cu' := 10) rfl (su' := 81) rfl (by decide) (by decide) (by decide) ?_
  refine Wk.aloadN o_init_81 rfl ?_
  refine Wk.bipush o_init_82 (z := (32 : Int32)) (by decide) ?_
  refine Wk.newA (coC H) (aty := .int) rfl (wa_int H) (mA_slotState) (wf_slotState H) (Or.inr ⟨wy_slotState H, rfl⟩) o_init_84 o_init_86 rfl rfl (k' := 11) rfl (cu' := 11) rfl (su' := 113) rfl (by decide) (by decide) (by decide) ?_
  refine Wk.aloadN o_init_89 rfl ?_
  refine Wk.bipush o_init_90 (z := (32 : Int32)) (by decide) ?_
  refine Wk.newA (coC H) (aty := .int) rfl (wa_int H) (mA_slotUser) (wf_slotUser H) (Or.inr ⟨wy_slotUser H, rfl⟩) o_init_92 o_init_94 rfl rfl (k' := 12) rfl (cu' := 12) rfl (su' := 145) rfl (by decide) (by decide) (by decide) ?_
  refine Wk.aloadN o_init_97 rfl ?_
  refine Wk.bipush o_init_98 (z := (32 : Int32)) (by decide) ?_
  refine Wk.newA (coC H) (aty := .int) rfl (wa_int H) (mA_slotGang) (wf_slotGang H) (Or.inr ⟨wy_slotGang H, rfl⟩) o_init_100 o_init_102 rfl rfl (k' := 13) rfl (cu' := 13) rfl (su' := 177) rfl (by decide) (by decide) (by decide) ?_
  refine Wk.aloadN o_init_105 rfl ?_
  refine Wk.bipush o_init_106 (z := (96 : Int32)) (by decide) ?_
  refine Wk.newA (coC H) (aty := .int) rfl (wa_int H) (mA_slotDemand) (wf_slotDemand H) (Or.inr ⟨wy_slotDemand H, rfl⟩) o_init_108 o_init_110 rfl rfl (k' := 14) rfl (cu' := 14) rfl (su' := 273) rfl (by decide) (by decide) (by decide) ?_
  refine Wk.aloadN o_init_113 rfl ?_
  refine Wk.bipush o_init_114 (z := (32 : Int32)) (by decide) ?_
  refine Wk.newA (coC H) (aty := .long) rfl (wa_long H) (mA_slotSeq) (wf_slotSeq H) (Or.inr ⟨wy_slotSeq H, rfl⟩) o_init_116 o_init_118 rfl rfl (k' := 15) rfl (cu' := 15) rfl (su' := 305) rfl (by decide) (by decide) (by decide) ?_
  refine Wk.aloadN o_init_121 rfl ?_
  refine Wk.getA (mA_capRes) (by decide) (i' := 1) rfl (wf_capRes H) o_init_122 ?_
  refine Wk.iconst o_init_125 (z := (0 : Int32)) (by decide) ?_
  refine Wk.aloadN o_init_126 rfl ?_
  refine Wk.iloadN o_init_127 rfl ?_
  refine Wk.iconst o_init_128 (z := (1 : Int32)) (by decide) ?_
  refine Wk.ldc o_init_129 (z := (1000000 : Int32)) (H.w 41 rfl) ?_
  refine Wk.callF [.int p1, .int (1 : Int32), .int (1000000 : Int32)] [.int (0 : Int32), .ref 1] (H.w 42 rfl) (cv_clampInt H) o_init_131 (run_clampInt H (fun _ => 0) (fun _ => 0) (fun _ _ => 0) (fun _ _ => 0) p1 (1 : Int32) (1000000 : Int32)) (wt := 2) (cu' := 15) (su' := 305) (by decide) rfl rfl rfl rfl rfl rfl rfl ?_
  refine Wk.iastore (coC H) (f := ((fun _ _ => 0) 0)) (mA_capRes) rfl (by decide) (i' := 1) rfl (by decide) (by decide) o_init_134 ?_
  refine Wk.aloadN o_init_135 rfl ?_
  refine Wk.getA (mA_capRes) (by decide) (i' := 1) rfl (wf_capRes H) o_init_136 ?_
  refine Wk.iconst o_init_139 (z := (1 : Int32)) (by decide) ?_
  refine Wk.aloadN o_init_140 rfl ?_
  refine Wk.iloadN o_init_141 rfl ?_
  refine Wk.iconst o_init_142 (z := (1 : Int32)) (by decide) ?_
  refine Wk.ldc o_init_143 (z := (1000000 : Int32)) (H.w 41 rfl) ?_
  refine Wk.callF [.int p2, .int (1 : Int32), .int (1000000 : Int32)] [.int (1 : Int32), .ref 1] (H.w 42 rfl) (cv_clampInt H) o_init_145 (run_clampInt H (fun _ => 0) (fun _ => 0) (ups (fun _ _ => 0) 0 (ups ((fun _ _ => 0) 0) (0 : Int32) (f_clampInt p1 (1 : Int32) (1000000 : Int32)))) (fun _ _ => 0) p2 (1 : Int32) (1000000 : Int32)) (wt := 2) (cu' := 15) (su' := 305) (by decide) rfl rfl rfl rfl rfl rfl rfl ?_
  refine Wk.iastore (coC H) (f := (ups ((fun _ _ => 0) 0) (0 : Int32) (f_clampInt p1 (1 : Int32) (1000000 : Int32)))) (mA_capRes) rfl (by decide) (i' := 1) rfl (by decide) (by decide) o_init_148 ?_
  refine Wk.aloadN o_init_149 rfl ?_
  refine Wk.getA (mA_capRes) (by decide) (i' := 1) rfl (wf_capRes H) o_init_150 ?_
  refine Wk.iconst o_init_153 (z := (2 : Int32)) (by decide) ?_
  refine Wk.aloadN o_init_154 rfl ?_
  refine Wk.iloadN o_init_155 rfl ?_
  refine Wk.iconst o_init_156 (z := (1 : Int32)) (by decide) ?_
  refine Wk.ldc o_init_157 (z := (1000000 : Int32)) (H.w 41 rfl) ?_
  refine Wk.callF [.int p3, .int (1 : Int32), .int (1000000 : Int32)] [.int (2 : Int32), .ref 1] (H.w 42 rfl) (cv_clampInt H) o_init_159 (run_clampInt H (fun _ => 0) (fun _ => 0) (ups (ups (fun _ _ => 0) 0 (ups ((fun _ _ => 0) 0) (0 : Int32) (f_clampInt p1 (1 : Int32) (1000000 : Int32)))) 0 (ups (ups ((fun _ _ => 0) 0) (0 : Int32) (f_clampInt p1 (1 : Int32) (1000000 : Int32))) (1 : Int32) (f_clampInt p2 (1 : Int32) (1000000 : Int32)))) (fun _ _ => 0) p3 (1 : Int32) (1000000 : Int32)) (wt := 2) (cu' := 15) (su' := 305) (by decide) rfl rfl rfl rfl rfl rfl rfl ?_
  refine Wk.iastore (coC H) (f := (ups (ups ((fun _ _ => 0) 0) (0 : Int32) (f_clampInt p1 (1 : Int32) (1000000 : Int32))) (1 : Int32) (f_clampInt p2 (1 : Int32) (1000000 : Int32)))) (mA_capRes) rfl (by decide) (i' := 1) rfl (by decide) (by decide) o_init_162 ?_
  refine Wk.aloadN o_init_163 rfl ?_
  refine Wk.aloadN o_init_164 rfl ?_
  refine Wk.iload o_init_165 rfl ?_
  refine Wk.iconst o_init_167 (z := (2 : Int32)) (by decide) ?_
  refine Wk.bipush o_init_168 (z := (8 : Int32)) (by decide) ?_
  refine Wk.callF [.int p4, .int (2 : Int32), .int (8 : Int32)] [.ref 0] (H.w 42 rfl) (cv_clampInt H) o_init_170 (run_clampInt H (fun _ => 0) (fun _ => 0) (ups (ups (ups (fun _ _ => 0) 0 (ups ((fun _ _ => 0) 0) (0 : Int32) (f_clampInt p1 (1 : Int32) (1000000 : Int32)))) 0 (ups (ups ((fun _ _ => 0) 0) (0 : Int32) (f_clampInt p1 (1 : Int32) (1000000 : Int32))) (1 : Int32) (f_clampInt p2 (1 : Int32) (1000000 : Int32)))) 0 (ups (ups (ups ((fun _ _ => 0) 0) (0 : Int32) (f_clampInt p1 (1 : Int32) (1000000 : Int32))) (1 : Int32) (f_clampInt p2 (1 : Int32) (1000000 : Int32))) (2 : Int32) (f_clampInt p3 (1 : Int32) (1000000 : Int32)))) (fun _ _ => 0) p4 (2 : Int32) (8 : Int32)) (wt := 1) (cu' := 15) (su' := 305) (by decide) rfl rfl rfl rfl rfl rfl rfl ?_
  refine Wk.putI (coC H) (mI_userCount) (wf_userCount H) (Or.inl (wy_userCount H)) o_init_173 ?_
  refine Wk.iconst o_init_176 (z := (0 : Int32)) (by decide) ?_
  refine Wk.istore o_init_177 (Or.inl rfl) (L' := [.val (.ref 0), .val (.int p1), .val (.int p2), .val (.int p3), .val (.int p4), .val (.int (0 : Int32))]) rfl ?_
  refine Wk.forget [false, true, true, true, true, false] (L' := [.val (.ref 0), .unset, .unset, .unset, .unset, .val (.int (0 : Int32))]) rfl rfl ?_
  exact h1

set_option maxRecDepth 65536 in
set_option maxHeartbeats 4000000 in
theorem wp_init_179 {l : Launch} {Z : State} {a0 : Array Value} (H : OK Z a0) (F : Nat → Int32) (G : Nat → Int64) (A : Nat → Int32 → Int32) (B : Nat → Int32 → Int64) (v5 : Int32) {Q : Option Value → WO → Prop} (h2 : ¬ v5 < (8 : Int32) → Wk l Z (MoC Z cdC) md_init 201 [.val (.ref 0), .unset, .unset, .unset, .unset, .val (.int (0 : Int32))] [] (15, F, G, A, B) 15 305 Q) (s3 : v5 < (8 : Int32) → ¬ v5 < 0) (h4 : v5 < (8 : Int32) → Wk l Z (MoC Z cdC) md_init 179 [.val (.ref 0), .unset, .unset, .unset, .unset, .val (.int (v5 + (1 : Int32)))] [] (15, F, G, (A_resetUser A v5), B) 15 305 Q) :
    Wk l Z (MoC Z cdC) md_init 179 [.val (.ref 0), .unset, .unset, .unset, .unset, .val (.int v5)] [] (15, F, G, A, B) 15 305 Q := by
  refine Wk.iload o_init_179 rfl ?_
  refine Wk.bipush o_init_181 (z := (8 : Int32)) (by decide) ?_
  refine Wk.icmp_ge o_init_183 (fun q1 => ?_) (fun q1 => ?_)
  · refine Wk.iconst o_init_198 (z := (0 : Int32)) (by decide) ?_
    refine Wk.istore o_init_199 (Or.inr ⟨_, rfl, rfl⟩) (L' := [.val (.ref 0), .unset, .unset, .unset, .unset, .val (.int (0 : Int32))]) rfl ?_
    exact (h2 q1)
  · refine Wk.aloadN o_init_186 rfl ?_
    refine Wk.iload o_init_187 rfl ?_
    refine Wk.callU [.int v5] [] (H.w 48 rfl) (cv_resetUser H) o_init_189 (run_resetUser H F G A B v5 (s3 q1) q1) (wt := 0) (cu' := 15) (su' := 305) (by decide) rfl rfl rfl rfl rfl rfl rfl ?_
    refine Wk.iinc o_init_192 rfl (z := (v5 + (1 : Int32))) rfl (L' := [.val (.ref 0), .unset, .unset, .unset, .unset, .val (.int (v5 + (1 : Int32)))]) rfl ?_
    refine Wk.goto o_init_195 ?_
    exact (h4 q1)

set_option maxRecDepth 65536 in
set_option maxHeartbeats 4000000 in
theorem wp_init_201 {l : Launch} {Z : State} {a0 : Array Value} (H : OK Z a0) (F : Nat → Int32) (G : Nat → Int64) (A : Nat → Int32 → Int32) (B : Nat → Int32 → Int64) (v5 : Int32) {Q : Option Value → WO → Prop} (h2 : ¬ v5 < (32 : Int32) → Wk l Z (MoC Z cdC) md_init 223 [.val (.ref 0), .unset, .unset, .unset, .unset, .val (.int (0 : Int32))] [] (15, F, G, A, B) 15 305 Q) (s3 : v5 < (32 : Int32) → ¬ v5 < 0) (h4 : v5 < (32 : Int32) → Wk l Z (MoC Z cdC) md_init 201 [.val (.ref 0), .unset, .unset, .unset, .unset, .val (.int (v5 + (1 : Int32)))] [] (15, F, G, (A_clearSlotFields A v5), (B_clearSlotFields B v5)) 15 305 Q) :
    Wk l Z (MoC Z cdC) md_init 201 [.val (.ref 0), .unset, .unset, .unset, .unset, .val (.int v5)] [] (15, F, G, A, B) 15 305 Q := by
  refine Wk.iload o_init_201 rfl ?_
  refine Wk.bipush o_init_203 (z := (32 : Int32)) (by decide) ?_
  refine Wk.icmp_ge o_init_205 (fun q1 => ?_) (fun q1 => ?_)
  · refine Wk.iconst o_init_220 (z := (0 : Int32)) (by decide) ?_
    refine Wk.istore o_init_221 (Or.inr ⟨_, rfl, rfl⟩) (L' := [.val (.ref 0), .unset, .unset, .unset, .unset, .val (.int (0 : Int32))]) rfl ?_
    exact (h2 q1)
  · refine Wk.aloadN o_init_208 rfl ?_
    refine Wk.iload o_init_209 rfl ?_
    refine Wk.callU [.int v5] [] (H.w 56 rfl) (cv_clearSlotFields H) o_init_211 (run_clearSlotFields H F G A B v5 (s3 q1) q1) (wt := 0) (cu' := 15) (su' := 305) (by decide) rfl rfl rfl rfl rfl rfl rfl ?_
    refine Wk.iinc o_init_214 rfl (z := (v5 + (1 : Int32))) rfl (L' := [.val (.ref 0), .unset, .unset, .unset, .unset, .val (.int (v5 + (1 : Int32)))]) rfl ?_
    refine Wk.goto o_init_217 ?_
    exact (h4 q1)

set_option maxRecDepth 65536 in
set_option maxHeartbeats 4000000 in
theorem wp_init_223 {l : Launch} {Z : State} {a0 : Array Value} (H : OK Z a0) (F : Nat → Int32) (G : Nat → Int64) (A : Nat → Int32 → Int32) (B : Nat → Int32 → Int64) (v5 : Int32) {Q : Option Value → WO → Prop} (h2 : ¬ v5 < (3 : Int32) → Q none (15, (ups (ups F 1 (32 : Int32)) 2 (-1 : Int32)), (ups G 0 (0 : Int64)), A, B)) (s3 : v5 < (3 : Int32) → ¬ v5 < 0) (h4 : v5 < (3 : Int32) → Wk l Z (MoC Z cdC) md_init 223 [.val (.ref 0), .unset, .unset, .unset, .unset, .val (.int (v5 + (1 : Int32)))] [] (15, F, G, (ups (ups A 1 (ups (A 1) v5 (0 : Int32))) 2 (ups (A 2) v5 (0 : Int32))), B) 15 305 Q) :
    Wk l Z (MoC Z cdC) md_init 223 [.val (.ref 0), .unset, .unset, .unset, .unset, .val (.int v5)] [] (15, F, G, A, B) 15 305 Q := by
  refine Wk.iload o_init_223 rfl ?_
  refine Wk.iconst o_init_225 (z := (3 : Int32)) (by decide) ?_
  refine Wk.icmp_ge o_init_226 (fun q1 => ?_) (fun q1 => ?_)
  · refine Wk.aloadN o_init_251 rfl ?_
    refine Wk.bipush o_init_252 (z := (32 : Int32)) (by decide) ?_
    refine Wk.putI (coC H) (mI_freeCount) (wf_freeCount H) (Or.inl (wy_freeCount H)) o_init_254 ?_
    refine Wk.aloadN o_init_257 rfl ?_
    refine Wk.lconst o_init_258 (z := (0 : Int64)) (by decide) ?_
    refine Wk.putJ (coC H) (mJ_seqCounter) (wf_seqCounter H) (Or.inl (wy_seqCounter H)) o_init_259 ?_
    refine Wk.aloadN o_init_262 rfl ?_
    refine Wk.iconst o_init_263 (z := (-1 : Int32)) (by decide) ?_
    refine Wk.putI (coC H) (mI_reserved) (wf_reserved H) (Or.inl (wy_reserved H)) o_init_264 ?_
    exact Wk.ret mrC rfl o_init_267 rfl (by decide) (by decide) (h2 q1)
  · refine Wk.aloadN o_init_229 rfl ?_
    refine Wk.getA (mA_usedRes) (by decide) (i' := 2) rfl (wf_usedRes H) o_init_230 ?_
    refine Wk.iload o_init_233 rfl ?_
    refine Wk.iconst o_init_235 (z := (0 : Int32)) (by decide) ?_
    refine Wk.iastore (coC H) (f := (A 1)) (mA_usedRes) rfl (by decide) (i' := 2) rfl (s3 q1) q1 o_init_236 ?_
    refine Wk.aloadN o_init_237 rfl ?_
    refine Wk.getA (mA_staged) (by decide) (i' := 3) rfl (wf_staged H) o_init_238 ?_
    refine Wk.iload o_init_241 rfl ?_
    refine Wk.iconst o_init_243 (z := (0 : Int32)) (by decide) ?_
    refine Wk.iastore (coC H) (f := (A 2)) (mA_staged) rfl (by decide) (i' := 3) rfl (s3 q1) q1 o_init_244 ?_
    refine Wk.iinc o_init_245 rfl (z := (v5 + (1 : Int32))) rfl (L' := [.val (.ref 0), .unset, .unset, .unset, .unset, .val (.int (v5 + (1 : Int32)))]) rfl ?_
    refine Wk.goto o_init_248 ?_
    exact (h4 q1)

def w_us (A : Nat → Int32 → Int32) (i : Int32) : Nat → Int32 → Int32 := (ups (ups A 1 (ups (A 1) i (0 : Int32))) 2 (ups (A 2) i (0 : Int32)))
def f_csf (s : (Nat → Int32 → Int32) × (Nat → Int32 → Int64)) (i : Int32) : (Nat → Int32 → Int32) × (Nat → Int32 → Int64) := (A_clearSlotFields s.1 i, B_clearSlotFields s.2 i)
theorem lp_init_223 {l : Launch} {Z : State} {a0 : Array Value} (H : OK Z a0) (F : Nat → Int32) (G : Nat → Int64) (A : Nat → Int32 → Int32) (B : Nat → Int32 → Int64) {Q : Option Value → WO → Prop} (hx : Q none (15, (ups (ups F 1 (32 : Int32)) 2 (-1 : Int32)), (ups G 0 (0 : Int64)), itS w_us 3 0 A, B)) :
    Wk l Z (MoC Z cdC) md_init 223 [.val (.ref 0), .unset, .unset, .unset, .unset, .val (.int (0 : Int32))] [] (15, F, G, A, B) 15 305 Q := by
  refine itUp (fun i (s : Nat → Int32 → Int32) => Wk l Z (MoC Z cdC) md_init 223 [.val (.ref 0), .unset, .unset, .unset, .unset, .val (.int i)] [] (15, F, G, s, B) 15 305 Q) w_us 3 (fun i s h0 h1 ih => ?_) 3 0 A (by decide) (by decide) ?_
  · exact wp_init_223 H F G s B i (fun h => absurd h1 h) (fun _ => h0) (fun _ => ih)
  · exact wp_init_223 H F G _ _ 3 (fun _ => hx) (fun h => absurd h (by decide)) (fun h => absurd h (by decide))
theorem lp_init_201 {l : Launch} {Z : State} {a0 : Array Value} (H : OK Z a0) (F : Nat → Int32) (G : Nat → Int64) (A : Nat → Int32 → Int32) (B : Nat → Int32 → Int64) {Q : Option Value → WO → Prop} (hx : Wk l Z (MoC Z cdC) md_init 223 [.val (.ref 0), .unset, .unset, .unset, .unset, .val (.int (0 : Int32))] [] (15, F, G, (itS f_csf 32 0 (A, B)).1, (itS f_csf 32 0 (A, B)).2) 15 305 Q) :
    Wk l Z (MoC Z cdC) md_init 201 [.val (.ref 0), .unset, .unset, .unset, .unset, .val (.int (0 : Int32))] [] (15, F, G, A, B) 15 305 Q := by
  refine itUp (fun i (s : (Nat → Int32 → Int32) × (Nat → Int32 → Int64)) => Wk l Z (MoC Z cdC) md_init 201 [.val (.ref 0), .unset, .unset, .unset, .unset, .val (.int i)] [] (15, F, G, s.1, s.2) 15 305 Q) f_csf 32 (fun i s h0 h1 ih => ?_) 32 0 (A, B) (by decide) (by decide) ?_
  · exact wp_init_201 H F G s.1 s.2 i (fun h => absurd h1 h) (fun _ => h0) (fun _ => ih)
  · exact wp_init_201 H F G _ _ 32 (fun _ => hx) (fun h => absurd h (by decide)) (fun h => absurd h (by decide))
theorem lp_init_179 {l : Launch} {Z : State} {a0 : Array Value} (H : OK Z a0) (F : Nat → Int32) (G : Nat → Int64) (A : Nat → Int32 → Int32) (B : Nat → Int32 → Int64) {Q : Option Value → WO → Prop} (hx : Wk l Z (MoC Z cdC) md_init 201 [.val (.ref 0), .unset, .unset, .unset, .unset, .val (.int (0 : Int32))] [] (15, F, G, (itS A_resetUser 8 0 A), B) 15 305 Q) :
    Wk l Z (MoC Z cdC) md_init 179 [.val (.ref 0), .unset, .unset, .unset, .unset, .val (.int (0 : Int32))] [] (15, F, G, A, B) 15 305 Q := by
  refine itUp (fun i (s : Nat → Int32 → Int32) => Wk l Z (MoC Z cdC) md_init 179 [.val (.ref 0), .unset, .unset, .unset, .unset, .val (.int i)] [] (15, F, G, s, B) 15 305 Q) A_resetUser 8 (fun i s h0 h1 ih => ?_) 8 0 A (by decide) (by decide) ?_
  · exact wp_init_179 H F G s B i (fun h => absurd h1 h) (fun _ => h0) (fun _ => ih)
  · exact wp_init_179 H F G _ _ 8 (fun _ => hx) (fun h => absurd h (by decide)) (fun h => absurd h (by decide))
def A_in0 (p1 p2 p3 : Int32) : Nat → Int32 → Int32 := (ups (ups (ups (fun _ _ => 0) 0 (ups ((fun _ _ => 0 : Nat → Int32 → Int32) 0) (0 : Int32) (f_clampInt p1 (1 : Int32) (1000000 : Int32)))) 0 (ups (ups ((fun _ _ => 0 : Nat → Int32 → Int32) 0) (0 : Int32) (f_clampInt p1 (1 : Int32) (1000000 : Int32))) (1 : Int32) (f_clampInt p2 (1 : Int32) (1000000 : Int32)))) 0 (ups (ups (ups ((fun _ _ => 0 : Nat → Int32 → Int32) 0) (0 : Int32) (f_clampInt p1 (1 : Int32) (1000000 : Int32))) (1 : Int32) (f_clampInt p2 (1 : Int32) (1000000 : Int32))) (2 : Int32) (f_clampInt p3 (1 : Int32) (1000000 : Int32))))
theorem eA_in0 (p1 p2 p3 : Int32) : A_in0 p1 p2 p3 = (ups (ups (ups (fun _ _ => 0) 0 (ups ((fun _ _ => 0 : Nat → Int32 → Int32) 0) (0 : Int32) (f_clampInt p1 (1 : Int32) (1000000 : Int32)))) 0 (ups (ups ((fun _ _ => 0 : Nat → Int32 → Int32) 0) (0 : Int32) (f_clampInt p1 (1 : Int32) (1000000 : Int32))) (1 : Int32) (f_clampInt p2 (1 : Int32) (1000000 : Int32)))) 0 (ups (ups (ups ((fun _ _ => 0 : Nat → Int32 → Int32) 0) (0 : Int32) (f_clampInt p1 (1 : Int32) (1000000 : Int32))) (1 : Int32) (f_clampInt p2 (1 : Int32) (1000000 : Int32))) (2 : Int32) (f_clampInt p3 (1 : Int32) (1000000 : Int32)))) := Eq.trans rfl rfl
def F_init (p1 p2 p3 p4 : Int32) : Nat → Int32 := (ups (ups (ups (fun _ => 0) 0 (f_clampInt p4 (2 : Int32) (8 : Int32))) 1 (32 : Int32)) 2 (-1 : Int32))
theorem eF_init (p1 p2 p3 p4 : Int32) : F_init p1 p2 p3 p4 = (ups (ups (ups (fun _ => 0) 0 (f_clampInt p4 (2 : Int32) (8 : Int32))) 1 (32 : Int32)) 2 (-1 : Int32)) := Eq.trans rfl rfl
def G_init (p1 p2 p3 p4 : Int32) : Nat → Int64 := ups (fun _ => 0) 0 (0 : Int64)
def AB_init (p1 p2 p3 p4 : Int32) : (Nat → Int32 → Int32) × (Nat → Int32 → Int64) := itS f_csf 32 0 (itS A_resetUser 8 0 (A_in0 p1 p2 p3), fun _ _ => 0)
def A_init (p1 p2 p3 p4 : Int32) : Nat → Int32 → Int32 := itS w_us 3 0 (AB_init p1 p2 p3 p4).1
def B_init (p1 p2 p3 p4 : Int32) : Nat → Int32 → Int64 := (AB_init p1 p2 p3 p4).2
theorem run_init {l : Launch} {Z : State} {a0 : Array Value} (H : OK Z a0) (p1 p2 p3 p4 : Int32) : Wk l Z (MoC Z cdC) md_init 0 [.val (.ref 0), .val (.int p1), .val (.int p2), .val (.int p3), .val (.int p4), .unset] [] (0, (fun _ => 0), (fun _ => 0), (fun _ _ => 0), (fun _ _ => 0)) 0 0 (fun v w' => v = none ∧ w' = (15, (F_init p1 p2 p3 p4), (G_init p1 p2 p3 p4), (A_init p1 p2 p3 p4), (B_init p1 p2 p3 p4))) :=
  wp_init H p1 p2 p3 p4 (lp_init_179 H _ _ _ _ (lp_init_201 H _ _ _ _ (lp_init_223 H _ _ _ _ ⟨rfl, rfl⟩)))
theorem F_init_0 (p1 p2 p3 p4 : Int32) : F_init p1 p2 p3 p4 0 = (f_clampInt p4 (2 : Int32) (8 : Int32)) := Eq.trans rfl rfl
theorem F_init_1 (p1 p2 p3 p4 : Int32) : F_init p1 p2 p3 p4 1 = (32 : Int32) := Eq.trans rfl rfl
theorem F_init_2 (p1 p2 p3 p4 : Int32) : F_init p1 p2 p3 p4 2 = (-1 : Int32) := Eq.trans rfl rfl
set_option maxRecDepth 65536 in
set_option maxHeartbeats 4000000 in
theorem wp_isDemandValue {l : Launch} {Z : State} {a0 : Array Value} (H : OK Z a0) (F : Nat → Int32) (G : Nat → Int64) (A : Nat → Int32 → Int32) (B : Nat → Int32 → Int64) (p1 : Int32) {Q : Option Value → WO → Prop} (h5 : Q (some (.int (nar .boolean (if p1 < 0 then (0 : Int32) else (if (1000000 : Int32) < p1 then (0 : Int32) else (1 : Int32)))))) (15, F, G, A, B)) :
    Wk l Z (MoC Z cdC) md_isDemandValue 0 [.val (.ref 0), .val (.int p1)] [] (15, F, G, A, B) 0 0 Q := by
  refine Wk.iloadN o_isDemandValue_0 rfl ?_
  have J4 : Wk l Z (MoC Z cdC) md_isDemandValue 15 [.val (.ref 0), .val (.int p1)] [.int (if p1 < 0 then (0 : Int32) else (if (1000000 : Int32) < p1 then (0 : Int32) else (1 : Int32)))] (15, F, G, A, B) 0 0 Q := by
    exact Wk.zreturn mrC rfl o_isDemandValue_15 rfl (by decide) (by decide) (y := (nar .boolean (if p1 < 0 then (0 : Int32) else (if (1000000 : Int32) < p1 then (0 : Int32) else (1 : Int32))))) rfl h5
  refine Wk.if_lt o_isDemandValue_1 (fun q1 => ?_) (fun q1 => ?_)
  · refine Wk.iconst o_isDemandValue_14 (z := (0 : Int32)) (by decide) ?_
    first | (rw [show ((if p1 < 0 then (0 : Int32) else (if (1000000 : Int32) < p1 then (0 : Int32) else (1 : Int32))) : Int32) = (0 : Int32) from if_pos q1] at J4; exact J4) | exact J4 | (simp only [if_pos q1] at J4 ⊢; exact J4)
  · refine Wk.iloadN o_isDemandValue_4 rfl ?_
    refine Wk.ldc o_isDemandValue_5 (z := (1000000 : Int32)) (H.w 41 rfl) ?_
    refine Wk.icmp_gt o_isDemandValue_7 (fun q2 => ?_) (fun q2 => ?_)
    · refine Wk.iconst o_isDemandValue_14 (z := (0 : Int32)) (by decide) ?_
      first | (rw [show ((if p1 < 0 then (0 : Int32) else (if (1000000 : Int32) < p1 then (0 : Int32) else (1 : Int32))) : Int32) = (0 : Int32) from Eq.trans (if_neg q1) <| if_pos q2] at J4; exact J4) | exact J4 | (simp only [if_neg q1, if_pos q2] at J4 ⊢; exact J4)
    · refine Wk.iconst o_isDemandValue_10 (z := (1 : Int32)) (by decide) ?_
      refine Wk.goto o_isDemandValue_11 ?_
      first | (rw [show ((if p1 < 0 then (0 : Int32) else (if (1000000 : Int32) < p1 then (0 : Int32) else (1 : Int32))) : Int32) = (1 : Int32) from Eq.trans (if_neg q1) <| if_neg q2] at J4; exact J4) | exact J4 | (simp only [if_neg q1, if_neg q2] at J4 ⊢; exact J4)

def f_isDemandValue (p1 : Int32) : Int32 := (nar .boolean (if p1 < 0 then (0 : Int32) else (if (1000000 : Int32) < p1 then (0 : Int32) else (1 : Int32))))
theorem e_isDemandValue (p1 : Int32) : f_isDemandValue p1 = (nar .boolean (if p1 < 0 then (0 : Int32) else (if (1000000 : Int32) < p1 then (0 : Int32) else (1 : Int32)))) := Eq.trans rfl rfl
theorem bz_isDemandValue (p1 : Int32) : nar .boolean (f_isDemandValue p1) = f_isDemandValue p1 := by
  unfold f_isDemandValue
  (repeat' split) <;> first | rfl | exact nar_nar _
theorem run_isDemandValue {l : Launch} {Z : State} {a0 : Array Value} (H : OK Z a0) (F : Nat → Int32) (G : Nat → Int64) (A : Nat → Int32 → Int32) (B : Nat → Int32 → Int64) (p1 : Int32) :
    Wk l Z (MoC Z cdC) md_isDemandValue 0 [.val (.ref 0), .val (.int p1)] [] (15, F, G, A, B) 0 0 (fun v w' => v = some (.int (f_isDemandValue p1)) ∧ w' = (15, F, G, A, B)) :=
  wp_isDemandValue H F G A B p1 ⟨rfl, rfl⟩
set_option maxRecDepth 65536 in
set_option maxHeartbeats 4000000 in
theorem wp_stage {l : Launch} {Z : State} {a0 : Array Value} (H : OK Z a0) (F : Nat → Int32) (G : Nat → Int64) (A : Nat → Int32 → Int32) (B : Nat → Int32 → Int64) (p1 : Int32) (p2 : Int32) (p3 : Int32) {Q : Option Value → WO → Prop} (h2 : (f_isDemandValue p1) = 0 → Q (some (.int (0 : Int32))) (15, F, G, A, B)) (h4 : ¬ (f_isDemandValue p1) = 0 → (f_isDemandValue p2) = 0 → Q (some (.int (0 : Int32))) (15, F, G, A, B)) (h6 : ¬ (f_isDemandValue p1) = 0 → ¬ (f_isDemandValue p2) = 0 → ¬ (f_isDemandValue p3) = 0 → Q (some (.int (1 : Int32))) (15, F, G, (ups (ups (ups A 2 (ups (A 2) (0 : Int32) p1)) 2 (ups (ups (A 2) (0 : Int32) p1) (1 : Int32) p2)) 2 (ups (ups (ups (A 2) (0 : Int32) p1) (1 : Int32) p2) (2 : Int32) p3)), B)) (h7 : ¬ (f_isDemandValue p1) = 0 → ¬ (f_isDemandValue p2) = 0 → (f_isDemandValue p3) = 0 → Q (some (.int (0 : Int32))) (15, F, G, A, B)) :
    Wk l Z (MoC Z cdC) md_stage 0 [.val (.ref 0), .val (.int p1), .val (.int p2), .val (.int p3)] [] (15, F, G, A, B) 0 0 Q := by
  refine Wk.aloadN o_stage_0 rfl ?_
  refine Wk.iloadN o_stage_1 rfl ?_
  refine Wk.callF [.int p1] [] (H.w 71 rfl) (cv_isDemandValue H) o_stage_2 (run_isDemandValue H F G A B p1) (wt := 0) (cu' := 0) (su' := 0) (by decide) rfl rfl rfl rfl rfl rfl rfl ?_
  refine Wk.if_eq o_stage_5 (fun q1 => ?_) (fun q1 => ?_)
  · refine Wk.iconst o_stage_24 (z := (0 : Int32)) (by decide) ?_
    exact Wk.zreturn mrC rfl o_stage_25 rfl (by decide) (by decide) (y := (0 : Int32)) (by decide) (h2 q1)
  · refine Wk.aloadN o_stage_8 rfl ?_
    refine Wk.iloadN o_stage_9 rfl ?_
    refine Wk.callF [.int p2] [] (H.w 71 rfl) (cv_isDemandValue H) o_stage_10 (run_isDemandValue H F G A B p2) (wt := 0) (cu' := 0) (su' := 0) (by decide) rfl rfl rfl rfl rfl rfl rfl ?_
    refine Wk.if_eq o_stage_13 (fun q3 => ?_) (fun q3 => ?_)
    · refine Wk.iconst o_stage_24 (z := (0 : Int32)) (by decide) ?_
      exact Wk.zreturn mrC rfl o_stage_25 rfl (by decide) (by decide) (y := (0 : Int32)) (by decide) (h4 q1 q3)
    · refine Wk.aloadN o_stage_16 rfl ?_
      refine Wk.iloadN o_stage_17 rfl ?_
      refine Wk.callF [.int p3] [] (H.w 71 rfl) (cv_isDemandValue H) o_stage_18 (run_isDemandValue H F G A B p3) (wt := 0) (cu' := 0) (su' := 0) (by decide) rfl rfl rfl rfl rfl rfl rfl ?_
      refine Wk.if_ne o_stage_21 (fun q5 => ?_) (fun q5 => ?_)
      · refine Wk.aloadN o_stage_26 rfl ?_
        refine Wk.getA (mA_staged) (by decide) (i' := 3) rfl (wf_staged H) o_stage_27 ?_
        refine Wk.iconst o_stage_30 (z := (0 : Int32)) (by decide) ?_
        refine Wk.iloadN o_stage_31 rfl ?_
        refine Wk.iastore (coC H) (f := (A 2)) (mA_staged) rfl (by decide) (i' := 3) rfl (by decide) (by decide) o_stage_32 ?_
        refine Wk.aloadN o_stage_33 rfl ?_
        refine Wk.getA (mA_staged) (by decide) (i' := 3) rfl (wf_staged H) o_stage_34 ?_
        refine Wk.iconst o_stage_37 (z := (1 : Int32)) (by decide) ?_
        refine Wk.iloadN o_stage_38 rfl ?_
        refine Wk.iastore (coC H) (f := (ups (A 2) (0 : Int32) p1)) (mA_staged) rfl (by decide) (i' := 3) rfl (by decide) (by decide) o_stage_39 ?_
        refine Wk.aloadN o_stage_40 rfl ?_
        refine Wk.getA (mA_staged) (by decide) (i' := 3) rfl (wf_staged H) o_stage_41 ?_
        refine Wk.iconst o_stage_44 (z := (2 : Int32)) (by decide) ?_
        refine Wk.iloadN o_stage_45 rfl ?_
        refine Wk.iastore (coC H) (f := (ups (ups (A 2) (0 : Int32) p1) (1 : Int32) p2)) (mA_staged) rfl (by decide) (i' := 3) rfl (by decide) (by decide) o_stage_46 ?_
        refine Wk.iconst o_stage_47 (z := (1 : Int32)) (by decide) ?_
        exact Wk.zreturn mrC rfl o_stage_48 rfl (by decide) (by decide) (y := (1 : Int32)) (by decide) (h6 q1 q3 q5)
      · refine Wk.iconst o_stage_24 (z := (0 : Int32)) (by decide) ?_
        exact Wk.zreturn mrC rfl o_stage_25 rfl (by decide) (by decide) (y := (0 : Int32)) (by decide) (h7 q1 q3 q5)

def f_stage (p1 : Int32) (p2 : Int32) (p3 : Int32) : Int32 := (if (f_isDemandValue p1) = 0 then (0 : Int32) else (if (f_isDemandValue p2) = 0 then (0 : Int32) else (if (f_isDemandValue p3) = 0 then (0 : Int32) else (1 : Int32))))
theorem e_stage (p1 : Int32) (p2 : Int32) (p3 : Int32) : f_stage p1 p2 p3 = (if (f_isDemandValue p1) = 0 then (0 : Int32) else (if (f_isDemandValue p2) = 0 then (0 : Int32) else (if (f_isDemandValue p3) = 0 then (0 : Int32) else (1 : Int32)))) := Eq.trans rfl rfl
theorem bz_stage (p1 : Int32) (p2 : Int32) (p3 : Int32) : nar .boolean (f_stage p1 p2 p3) = f_stage p1 p2 p3 := by
  unfold f_stage
  (repeat' split) <;> first | rfl | exact nar_nar _
def A_stage (A : Nat → Int32 → Int32) (p1 : Int32) (p2 : Int32) (p3 : Int32) : Nat → Int32 → Int32 := (if (f_isDemandValue p1) = 0 then A else (if (f_isDemandValue p2) = 0 then A else (if (f_isDemandValue p3) = 0 then A else (ups (ups (ups A 2 (ups (A 2) (0 : Int32) p1)) 2 (ups (ups (A 2) (0 : Int32) p1) (1 : Int32) p2)) 2 (ups (ups (ups (A 2) (0 : Int32) p1) (1 : Int32) p2) (2 : Int32) p3)))))
theorem eA_stage (A : Nat → Int32 → Int32) (p1 : Int32) (p2 : Int32) (p3 : Int32) : A_stage A p1 p2 p3 = (if (f_isDemandValue p1) = 0 then A else (if (f_isDemandValue p2) = 0 then A else (if (f_isDemandValue p3) = 0 then A else (ups (ups (ups A 2 (ups (A 2) (0 : Int32) p1)) 2 (ups (ups (A 2) (0 : Int32) p1) (1 : Int32) p2)) 2 (ups (ups (ups (A 2) (0 : Int32) p1) (1 : Int32) p2) (2 : Int32) p3))))) := Eq.trans rfl rfl
theorem run_stage {l : Launch} {Z : State} {a0 : Array Value} (H : OK Z a0) (F : Nat → Int32) (G : Nat → Int64) (A : Nat → Int32 → Int32) (B : Nat → Int32 → Int64) (p1 : Int32) (p2 : Int32) (p3 : Int32) :
    Wk l Z (MoC Z cdC) md_stage 0 [.val (.ref 0), .val (.int p1), .val (.int p2), .val (.int p3)] [] (15, F, G, A, B) 0 0 (fun v w' => v = some (.int (f_stage p1 p2 p3)) ∧ w' = (15, F, G, (A_stage A p1 p2 p3), B)) :=
  wp_stage H F G A B p1 p2 p3 (fun q1 => ⟨by simp only [e_stage, if_pos q1], by simp only [eA_stage, if_pos q1]⟩) (fun q1 q3 => ⟨by simp only [e_stage, if_neg q1, if_pos q3], by simp only [eA_stage, if_neg q1, if_pos q3]⟩) (fun q1 q3 q5 => ⟨by simp only [e_stage, if_neg q1, if_neg q3, if_neg q5], by simp only [eA_stage, if_neg q1, if_neg q3, if_neg q5]⟩) (fun q1 q3 q5 => ⟨by simp only [e_stage, if_neg q1, if_neg q3, if_pos q5], by simp only [eA_stage, if_neg q1, if_neg q3, if_pos q5]⟩)
set_option maxRecDepth 65536 in
set_option maxHeartbeats 4000000 in
theorem wp_isUser {l : Launch} {Z : State} {a0 : Array Value} (H : OK Z a0) (F : Nat → Int32) (G : Nat → Int64) (A : Nat → Int32 → Int32) (B : Nat → Int32 → Int64) (p1 : Int32) {Q : Option Value → WO → Prop} (h7 : Q (some (.int (nar .boolean (if p1 < 0 then (0 : Int32) else (if p1 < (F 0) then (if p1 < (8 : Int32) then (1 : Int32) else (0 : Int32)) else (0 : Int32)))))) (15, F, G, A, B)) :
    Wk l Z (MoC Z cdC) md_isUser 0 [.val (.ref 0), .val (.int p1)] [] (15, F, G, A, B) 0 0 Q := by
  refine Wk.iloadN o_isUser_0 rfl ?_
  have J6 : Wk l Z (MoC Z cdC) md_isUser 23 [.val (.ref 0), .val (.int p1)] [.int (if p1 < 0 then (0 : Int32) else (if p1 < (F 0) then (if p1 < (8 : Int32) then (1 : Int32) else (0 : Int32)) else (0 : Int32)))] (15, F, G, A, B) 0 0 Q := by
    exact Wk.zreturn mrC rfl o_isUser_23 rfl (by decide) (by decide) (y := (nar .boolean (if p1 < 0 then (0 : Int32) else (if p1 < (F 0) then (if p1 < (8 : Int32) then (1 : Int32) else (0 : Int32)) else (0 : Int32))))) rfl h7
  refine Wk.if_lt o_isUser_1 (fun q1 => ?_) (fun q1 => ?_)
  · refine Wk.iconst o_isUser_22 (z := (0 : Int32)) (by decide) ?_
    first | (rw [show ((if p1 < 0 then (0 : Int32) else (if p1 < (F 0) then (if p1 < (8 : Int32) then (1 : Int32) else (0 : Int32)) else (0 : Int32))) : Int32) = (0 : Int32) from if_pos q1] at J6; exact J6) | exact J6 | (simp only [if_pos q1] at J6 ⊢; exact J6)
  · refine Wk.iloadN o_isUser_4 rfl ?_
    refine Wk.aloadN o_isUser_5 rfl ?_
    refine Wk.getI (mI_userCount) (wf_userCount H) o_isUser_6 (x := (F 0)) rfl ?_
    refine Wk.icmp_ge o_isUser_9 (fun q2 => ?_) (fun q2 => ?_)
    · refine Wk.iconst o_isUser_22 (z := (0 : Int32)) (by decide) ?_
      first | (rw [show ((if p1 < 0 then (0 : Int32) else (if p1 < (F 0) then (if p1 < (8 : Int32) then (1 : Int32) else (0 : Int32)) else (0 : Int32))) : Int32) = (0 : Int32) from Eq.trans (if_neg q1) <| if_neg q2] at J6; exact J6) | exact J6 | (simp only [if_neg q1, if_neg q2] at J6 ⊢; exact J6)
    · refine Wk.iloadN o_isUser_12 rfl ?_
      refine Wk.bipush o_isUser_13 (z := (8 : Int32)) (by decide) ?_
      refine Wk.icmp_ge o_isUser_15 (fun q3 => ?_) (fun q3 => ?_)
      · refine Wk.iconst o_isUser_22 (z := (0 : Int32)) (by decide) ?_
        first | (rw [show ((if p1 < 0 then (0 : Int32) else (if p1 < (F 0) then (if p1 < (8 : Int32) then (1 : Int32) else (0 : Int32)) else (0 : Int32))) : Int32) = (0 : Int32) from Eq.trans (if_neg q1) <| Eq.trans (if_pos q2) <| if_neg q3] at J6; exact J6) | exact J6 | (simp only [if_neg q1, if_pos q2, if_neg q3] at J6 ⊢; exact J6)
      · refine Wk.iconst o_isUser_18 (z := (1 : Int32)) (by decide) ?_
        refine Wk.goto o_isUser_19 ?_
        first | (rw [show ((if p1 < 0 then (0 : Int32) else (if p1 < (F 0) then (if p1 < (8 : Int32) then (1 : Int32) else (0 : Int32)) else (0 : Int32))) : Int32) = (1 : Int32) from Eq.trans (if_neg q1) <| Eq.trans (if_pos q2) <| if_pos q3] at J6; exact J6) | exact J6 | (simp only [if_neg q1, if_pos q2, if_pos q3] at J6 ⊢; exact J6)

def f_isUser (F : Nat → Int32) (p1 : Int32) : Int32 := (nar .boolean (if p1 < 0 then (0 : Int32) else (if p1 < (F 0) then (if p1 < (8 : Int32) then (1 : Int32) else (0 : Int32)) else (0 : Int32))))
theorem e_isUser (F : Nat → Int32) (p1 : Int32) : f_isUser F p1 = (nar .boolean (if p1 < 0 then (0 : Int32) else (if p1 < (F 0) then (if p1 < (8 : Int32) then (1 : Int32) else (0 : Int32)) else (0 : Int32)))) := Eq.trans rfl rfl
theorem bz_isUser (F : Nat → Int32) (p1 : Int32) : nar .boolean (f_isUser F p1) = f_isUser F p1 := by
  unfold f_isUser
  (repeat' split) <;> first | rfl | exact nar_nar _
theorem run_isUser {l : Launch} {Z : State} {a0 : Array Value} (H : OK Z a0) (F : Nat → Int32) (G : Nat → Int64) (A : Nat → Int32 → Int32) (B : Nat → Int32 → Int64) (p1 : Int32) :
    Wk l Z (MoC Z cdC) md_isUser 0 [.val (.ref 0), .val (.int p1)] [] (15, F, G, A, B) 0 0 (fun v w' => v = some (.int (f_isUser F p1)) ∧ w' = (15, F, G, A, B)) :=
  wp_isUser H F G A B p1 ⟨rfl, rfl⟩
set_option maxRecDepth 65536 in
set_option maxHeartbeats 4000000 in
theorem wp_isGangValue {l : Launch} {Z : State} {a0 : Array Value} (H : OK Z a0) (F : Nat → Int32) (G : Nat → Int64) (A : Nat → Int32 → Int32) (B : Nat → Int32 → Int64) (p1 : Int32) {Q : Option Value → WO → Prop} (h5 : Q (some (.int (nar .boolean (if p1 < (1 : Int32) then (0 : Int32) else (if (4 : Int32) < p1 then (0 : Int32) else (1 : Int32)))))) (15, F, G, A, B)) :
    Wk l Z (MoC Z cdC) md_isGangValue 0 [.val (.ref 0), .val (.int p1)] [] (15, F, G, A, B) 0 0 Q := by
  refine Wk.iloadN o_isGangValue_0 rfl ?_
  refine Wk.iconst o_isGangValue_1 (z := (1 : Int32)) (by decide) ?_
  have J4 : Wk l Z (MoC Z cdC) md_isGangValue 15 [.val (.ref 0), .val (.int p1)] [.int (if p1 < (1 : Int32) then (0 : Int32) else (if (4 : Int32) < p1 then (0 : Int32) else (1 : Int32)))] (15, F, G, A, B) 0 0 Q := by
    exact Wk.zreturn mrC rfl o_isGangValue_15 rfl (by decide) (by decide) (y := (nar .boolean (if p1 < (1 : Int32) then (0 : Int32) else (if (4 : Int32) < p1 then (0 : Int32) else (1 : Int32))))) rfl h5
  refine Wk.icmp_lt o_isGangValue_2 (fun q1 => ?_) (fun q1 => ?_)
  · refine Wk.iconst o_isGangValue_14 (z := (0 : Int32)) (by decide) ?_
    first | (rw [show ((if p1 < (1 : Int32) then (0 : Int32) else (if (4 : Int32) < p1 then (0 : Int32) else (1 : Int32))) : Int32) = (0 : Int32) from if_pos q1] at J4; exact J4) | exact J4 | (simp only [if_pos q1] at J4 ⊢; exact J4)
  · refine Wk.iloadN o_isGangValue_5 rfl ?_
    refine Wk.iconst o_isGangValue_6 (z := (4 : Int32)) (by decide) ?_
    refine Wk.icmp_gt o_isGangValue_7 (fun q2 => ?_) (fun q2 => ?_)
    · refine Wk.iconst o_isGangValue_14 (z := (0 : Int32)) (by decide) ?_
      first | (rw [show ((if p1 < (1 : Int32) then (0 : Int32) else (if (4 : Int32) < p1 then (0 : Int32) else (1 : Int32))) : Int32) = (0 : Int32) from Eq.trans (if_neg q1) <| if_pos q2] at J4; exact J4) | exact J4 | (simp only [if_neg q1, if_pos q2] at J4 ⊢; exact J4)
    · refine Wk.iconst o_isGangValue_10 (z := (1 : Int32)) (by decide) ?_
      refine Wk.goto o_isGangValue_11 ?_
      first | (rw [show ((if p1 < (1 : Int32) then (0 : Int32) else (if (4 : Int32) < p1 then (0 : Int32) else (1 : Int32))) : Int32) = (1 : Int32) from Eq.trans (if_neg q1) <| if_neg q2] at J4; exact J4) | exact J4 | (simp only [if_neg q1, if_neg q2] at J4 ⊢; exact J4)

def f_isGangValue (p1 : Int32) : Int32 := (nar .boolean (if p1 < (1 : Int32) then (0 : Int32) else (if (4 : Int32) < p1 then (0 : Int32) else (1 : Int32))))
theorem e_isGangValue (p1 : Int32) : f_isGangValue p1 = (nar .boolean (if p1 < (1 : Int32) then (0 : Int32) else (if (4 : Int32) < p1 then (0 : Int32) else (1 : Int32)))) := Eq.trans rfl rfl
theorem bz_isGangValue (p1 : Int32) : nar .boolean (f_isGangValue p1) = f_isGangValue p1 := by
  unfold f_isGangValue
  (repeat' split) <;> first | rfl | exact nar_nar _
theorem run_isGangValue {l : Launch} {Z : State} {a0 : Array Value} (H : OK Z a0) (F : Nat → Int32) (G : Nat → Int64) (A : Nat → Int32 → Int32) (B : Nat → Int32 → Int64) (p1 : Int32) :
    Wk l Z (MoC Z cdC) md_isGangValue 0 [.val (.ref 0), .val (.int p1)] [] (15, F, G, A, B) 0 0 (fun v w' => v = some (.int (f_isGangValue p1)) ∧ w' = (15, F, G, A, B)) :=
  wp_isGangValue H F G A B p1 ⟨rfl, rfl⟩
set_option maxRecDepth 65536 in
set_option maxHeartbeats 4000000 in
theorem wp_stagedIsZero {l : Launch} {Z : State} {a0 : Array Value} (H : OK Z a0) (F : Nat → Int32) (G : Nat → Int64) (A : Nat → Int32 → Int32) (B : Nat → Int32 → Int64) {Q : Option Value → WO → Prop} (h7 : Q (some (.int (nar .boolean (if ((A 2) (0 : Int32)) = 0 then (if ((A 2) (1 : Int32)) = 0 then (if ((A 2) (2 : Int32)) = 0 then (1 : Int32) else (0 : Int32)) else (0 : Int32)) else (0 : Int32))))) (15, F, G, A, B)) :
    Wk l Z (MoC Z cdC) md_stagedIsZero 0 [.val (.ref 0)] [] (15, F, G, A, B) 0 0 Q := by
  refine Wk.aloadN o_stagedIsZero_0 rfl ?_
  refine Wk.getA (mA_staged) (by decide) (i' := 3) rfl (wf_staged H) o_stagedIsZero_1 ?_
  refine Wk.iconst o_stagedIsZero_4 (z := (0 : Int32)) (by decide) ?_
  refine Wk.iaload (mA_staged) (by decide) (i' := 3) rfl (by decide) (by decide) o_stagedIsZero_5 (y := ((A 2) (0 : Int32))) rfl ?_
  have J6 : Wk l Z (MoC Z cdC) md_stagedIsZero 32 [.val (.ref 0)] [.int (if ((A 2) (0 : Int32)) = 0 then (if ((A 2) (1 : Int32)) = 0 then (if ((A 2) (2 : Int32)) = 0 then (1 : Int32) else (0 : Int32)) else (0 : Int32)) else (0 : Int32))] (15, F, G, A, B) 0 0 Q := by
    exact Wk.zreturn mrC rfl o_stagedIsZero_32 rfl (by decide) (by decide) (y := (nar .boolean (if ((A 2) (0 : Int32)) = 0 then (if ((A 2) (1 : Int32)) = 0 then (if ((A 2) (2 : Int32)) = 0 then (1 : Int32) else (0 : Int32)) else (0 : Int32)) else (0 : Int32)))) rfl h7
  refine Wk.if_ne o_stagedIsZero_6 (fun q1 => ?_) (fun q1 => ?_)
  · refine Wk.iconst o_stagedIsZero_31 (z := (0 : Int32)) (by decide) ?_
    first | (rw [show ((if ((A 2) (0 : Int32)) = 0 then (if ((A 2) (1 : Int32)) = 0 then (if ((A 2) (2 : Int32)) = 0 then (1 : Int32) else (0 : Int32)) else (0 : Int32)) else (0 : Int32)) : Int32) = (0 : Int32) from if_neg q1] at J6; exact J6) | exact J6 | (simp only [if_neg q1] at J6 ⊢; exact J6)
  · refine Wk.aloadN o_stagedIsZero_9 rfl ?_
    refine Wk.getA (mA_staged) (by decide) (i' := 3) rfl (wf_staged H) o_stagedIsZero_10 ?_
    refine Wk.iconst o_stagedIsZero_13 (z := (1 : Int32)) (by decide) ?_
    refine Wk.iaload (mA_staged) (by decide) (i' := 3) rfl (by decide) (by decide) o_stagedIsZero_14 (y := ((A 2) (1 : Int32))) rfl ?_
    refine Wk.if_ne o_stagedIsZero_15 (fun q2 => ?_) (fun q2 => ?_)
    · refine Wk.iconst o_stagedIsZero_31 (z := (0 : Int32)) (by decide) ?_
      first | (rw [show ((if ((A 2) (0 : Int32)) = 0 then (if ((A 2) (1 : Int32)) = 0 then (if ((A 2) (2 : Int32)) = 0 then (1 : Int32) else (0 : Int32)) else (0 : Int32)) else (0 : Int32)) : Int32) = (0 : Int32) from Eq.trans (if_pos q1) <| if_neg q2] at J6; exact J6) | exact J6 | (simp only [if_pos q1, if_neg q2] at J6 ⊢; exact J6)
    · refine Wk.aloadN o_stagedIsZero_18 rfl ?_
      refine Wk.getA (mA_staged) (by decide) (i' := 3) rfl (wf_staged H) o_stagedIsZero_19 ?_
      refine Wk.iconst o_stagedIsZero_22 (z := (2 : Int32)) (by decide) ?_
      refine Wk.iaload (mA_staged) (by decide) (i' := 3) rfl (by decide) (by decide) o_stagedIsZero_23 (y := ((A 2) (2 : Int32))) rfl ?_
      refine Wk.if_ne o_stagedIsZero_24 (fun q3 => ?_) (fun q3 => ?_)
      · refine Wk.iconst o_stagedIsZero_31 (z := (0 : Int32)) (by decide) ?_
        first | (rw [show ((if ((A 2) (0 : Int32)) = 0 then (if ((A 2) (1 : Int32)) = 0 then (if ((A 2) (2 : Int32)) = 0 then (1 : Int32) else (0 : Int32)) else (0 : Int32)) else (0 : Int32)) : Int32) = (0 : Int32) from Eq.trans (if_pos q1) <| Eq.trans (if_pos q2) <| if_neg q3] at J6; exact J6) | exact J6 | (simp only [if_pos q1, if_pos q2, if_neg q3] at J6 ⊢; exact J6)
      · refine Wk.iconst o_stagedIsZero_27 (z := (1 : Int32)) (by decide) ?_
        refine Wk.goto o_stagedIsZero_28 ?_
        first | (rw [show ((if ((A 2) (0 : Int32)) = 0 then (if ((A 2) (1 : Int32)) = 0 then (if ((A 2) (2 : Int32)) = 0 then (1 : Int32) else (0 : Int32)) else (0 : Int32)) else (0 : Int32)) : Int32) = (1 : Int32) from Eq.trans (if_pos q1) <| Eq.trans (if_pos q2) <| if_pos q3] at J6; exact J6) | exact J6 | (simp only [if_pos q1, if_pos q2, if_pos q3] at J6 ⊢; exact J6)

def f_stagedIsZero (A : Nat → Int32 → Int32) : Int32 := (nar .boolean (if ((A 2) (0 : Int32)) = 0 then (if ((A 2) (1 : Int32)) = 0 then (if ((A 2) (2 : Int32)) = 0 then (1 : Int32) else (0 : Int32)) else (0 : Int32)) else (0 : Int32)))
theorem e_stagedIsZero (A : Nat → Int32 → Int32) : f_stagedIsZero A = (nar .boolean (if ((A 2) (0 : Int32)) = 0 then (if ((A 2) (1 : Int32)) = 0 then (if ((A 2) (2 : Int32)) = 0 then (1 : Int32) else (0 : Int32)) else (0 : Int32)) else (0 : Int32))) := Eq.trans rfl rfl
theorem bz_stagedIsZero (A : Nat → Int32 → Int32) : nar .boolean (f_stagedIsZero A) = f_stagedIsZero A := by
  unfold f_stagedIsZero
  (repeat' split) <;> first | rfl | exact nar_nar _
theorem run_stagedIsZero {l : Launch} {Z : State} {a0 : Array Value} (H : OK Z a0) (F : Nat → Int32) (G : Nat → Int64) (A : Nat → Int32 → Int32) (B : Nat → Int32 → Int64) :
    Wk l Z (MoC Z cdC) md_stagedIsZero 0 [.val (.ref 0)] [] (15, F, G, A, B) 0 0 (fun v w' => v = some (.int (f_stagedIsZero A)) ∧ w' = (15, F, G, A, B)) :=
  wp_stagedIsZero H F G A B ⟨rfl, rfl⟩
set_option maxRecDepth 65536 in
set_option maxHeartbeats 4000000 in
theorem wp_stagedNeverFits {l : Launch} {Z : State} {a0 : Array Value} (H : OK Z a0) (F : Nat → Int32) (G : Nat → Int64) (A : Nat → Int32 → Int32) (B : Nat → Int32 → Int64) (p1 : Int32) {Q : Option Value → WO → Prop} (h1 : Wk l Z (MoC Z cdC) md_stagedNeverFits 2 [.val (.ref 0), .val (.int p1), .val (.int (0 : Int32)), .unset, .unset] [] (15, F, G, A, B) 0 0 Q) :
    Wk l Z (MoC Z cdC) md_stagedNeverFits 0 [.val (.ref 0), .val (.int p1), .unset, .unset, .unset] [] (15, F, G, A, B) 0 0 Q := by
  refine Wk.iconst o_stagedNeverFits_0 (z := (0 : Int32)) (by decide) ?_
  refine Wk.istoreN o_stagedNeverFits_1 (Or.inl rfl) (L' := [.val (.ref 0), .val (.int p1), .val (.int (0 : Int32)), .unset, .unset]) rfl ?_
  exact h1

set_option maxRecDepth 65536 in
set_option maxHeartbeats 4000000 in
theorem wp_stagedNeverFits_2 {l : Launch} {Z : State} {a0 : Array Value} (H : OK Z a0) (F : Nat → Int32) (G : Nat → Int64) (A : Nat → Int32 → Int32) (B : Nat → Int32 → Int64) (v1 : Int32) (v2 : Int32) {Q : Option Value → WO → Prop} (h2 : ¬ v2 < (3 : Int32) → Q (some (.int (0 : Int32))) (15, F, G, A, B)) (s3 : v2 < (3 : Int32) → ¬ v2 < 0) (h5 : v2 < (3 : Int32) → ¬ 0 < (XT.cmpL (((v1).toInt64) * (((A 2) v2).toInt64)) (((A 0) v2).toInt64)) → Wk l Z (MoC Z cdC) md_stagedNeverFits 2 [.val (.ref 0), .val (.int v1), .val (.int (v2 + (1 : Int32))), .unset, .unset] [] (15, F, G, A, B) 0 0 Q) (h6 : v2 < (3 : Int32) → 0 < (XT.cmpL (((v1).toInt64) * (((A 2) v2).toInt64)) (((A 0) v2).toInt64)) → Q (some (.int (1 : Int32))) (15, F, G, A, B)) :
    Wk l Z (MoC Z cdC) md_stagedNeverFits 2 [.val (.ref 0), .val (.int v1), .val (.int v2), .unset, .unset] [] (15, F, G, A, B) 0 0 Q := by
  refine Wk.iloadN o_stagedNeverFits_2 rfl ?_
  refine Wk.iconst o_stagedNeverFits_3 (z := (3 : Int32)) (by decide) ?_
  refine Wk.icmp_ge o_stagedNeverFits_4 (fun q1 => ?_) (fun q1 => ?_)
  · refine Wk.iconst o_stagedNeverFits_38 (z := (0 : Int32)) (by decide) ?_
    exact Wk.zreturn mrC rfl o_stagedNeverFits_39 rfl (by decide) (by decide) (y := (0 : Int32)) (by decide) (h2 q1)
  · refine Wk.iloadN o_stagedNeverFits_7 rfl ?_
    refine Wk.i2l o_stagedNeverFits_8 ?_
    refine Wk.aloadN o_stagedNeverFits_9 rfl ?_
    refine Wk.getA (mA_staged) (by decide) (i' := 3) rfl (wf_staged H) o_stagedNeverFits_10 ?_
    refine Wk.iloadN o_stagedNeverFits_13 rfl ?_
    refine Wk.iaload (mA_staged) (by decide) (i' := 3) rfl (s3 q1) q1 o_stagedNeverFits_14 (y := ((A 2) v2)) rfl ?_
    refine Wk.i2l o_stagedNeverFits_15 ?_
    refine Wk.lmul o_stagedNeverFits_16 ?_
    refine Wk.lstoreN o_stagedNeverFits_17 (Or.inl rfl) (Or.inl rfl) (L' := [.val (.ref 0), .val (.int v1), .val (.int v2), .val (.long (((v1).toInt64) * (((A 2) v2).toInt64))), .second]) rfl ?_
    refine Wk.lloadN o_stagedNeverFits_18 rfl ?_
    refine Wk.aloadN o_stagedNeverFits_19 rfl ?_
    refine Wk.getA (mA_capRes) (by decide) (i' := 1) rfl (wf_capRes H) o_stagedNeverFits_20 ?_
    refine Wk.iloadN o_stagedNeverFits_23 rfl ?_
    refine Wk.iaload (mA_capRes) (by decide) (i' := 1) rfl (s3 q1) q1 o_stagedNeverFits_24 (y := ((A 0) v2)) rfl ?_
    refine Wk.i2l o_stagedNeverFits_25 ?_
    refine Wk.lcmp o_stagedNeverFits_26 ?_
    refine Wk.if_le o_stagedNeverFits_27 (fun q4 => ?_) (fun q4 => ?_)
    · refine Wk.iinc o_stagedNeverFits_32 rfl (z := (v2 + (1 : Int32))) rfl (L' := [.val (.ref 0), .val (.int v1), .val (.int (v2 + (1 : Int32))), .val (.long (((v1).toInt64) * (((A 2) v2).toInt64))), .second]) rfl ?_
      refine Wk.goto o_stagedNeverFits_35 ?_
      refine Wk.forget [false, false, false, true, true] (L' := [.val (.ref 0), .val (.int v1), .val (.int (v2 + (1 : Int32))), .unset, .unset]) rfl rfl ?_
      exact (h5 q1 q4)
    · refine Wk.iconst o_stagedNeverFits_30 (z := (1 : Int32)) (by decide) ?_
      exact Wk.zreturn mrC rfl o_stagedNeverFits_31 rfl (by decide) (by decide) (y := (1 : Int32)) (by decide) (h6 q1 q4)

theorem rt_stagedNeverFits (F : Nat → Int32) (G : Nat → Int64) (A : Nat → Int32 → Int32) (B : Nat → Int32 → Int64) (v0 : Int32) (r : Int32) (e : v0 = r) : some (Value.int v0) = some (.int r) ∧ (15, F, G, A, B) = (15, F, G, A, B) := by subst e; exact ⟨rfl, rfl⟩
def lp_stagedNeverFits : Nat → Nat → Int32 → Int32 → (Nat → Int32 → Int32) → Option (Int32)
  | 0, _, _, _, _ => none
  | n + 1, tag, v1, v2, A => if tag = 2 then (if v2 < (3 : Int32) then (if (¬ v2 < 0) then (if 0 < (XT.cmpL (((v1).toInt64) * (((A 2) v2).toInt64)) (((A 0) v2).toInt64)) then some ((1 : Int32)) else lp_stagedNeverFits n 2 v1 (v2 + (1 : Int32)) A) else none) else some ((0 : Int32))) else none
theorem lp_stagedNeverFits_z (tag : Nat) (v1 : Int32) (v2 : Int32) (A : Nat → Int32 → Int32) : lp_stagedNeverFits 0 tag v1 v2 A = none := Eq.trans rfl rfl
theorem lp_stagedNeverFits_2 (n : Nat) (v1 : Int32) (v2 : Int32) (A : Nat → Int32 → Int32) : lp_stagedNeverFits (n + 1) 2 v1 v2 A = (if v2 < (3 : Int32) then (if (¬ v2 < 0) then (if 0 < (XT.cmpL (((v1).toInt64) * (((A 2) v2).toInt64)) (((A 0) v2).toInt64)) then some ((1 : Int32)) else lp_stagedNeverFits n 2 v1 (v2 + (1 : Int32)) A) else none) else some ((0 : Int32))) := by
  rw [lp_stagedNeverFits, if_pos rfl]
set_option maxRecDepth 65536 in
set_option maxHeartbeats 4000000 in
theorem lpw_stagedNeverFits {l : Launch} {Z : State} {a0 : Array Value} (H : OK Z a0) (F : Nat → Int32) (G : Nat → Int64) (A : Nat → Int32 → Int32) (B : Nat → Int32 → Int64) : ∀ (n : Nat) (v1 : Int32) (v2 : Int32) (r : Int32), (lp_stagedNeverFits n 2 v1 v2 A = some r → Wk l Z (MoC Z cdC) md_stagedNeverFits 2 [.val (.ref 0), .val (.int v1), .val (.int v2), .unset, .unset] [] (15, F, G, A, B) 0 0 (fun v w' => v = some (.int r) ∧ w' = (15, F, G, A, B))) := by
  intro n
  induction n with
  | zero =>
    intro v1 v2  r
    exact (fun h => by rw [lp_stagedNeverFits_z] at h; cases h)
  | succ n ih =>
    intro v1 v2  r
    refine fun h => ?_
    · rw [lp_stagedNeverFits_2] at h
      exact wp_stagedNeverFits_2 H F G A B v1 v2 (fun q1 => (rt_stagedNeverFits _ _ _ _ _ r (Option.some.inj (ifn q1 h)))) (fun q1 => (gd (ifp q1 h)).1) (fun q1 q4 => (ih _ _ _) (ifn q4 (gd (ifp q1 h)).2)) (fun q1 q4 => (rt_stagedNeverFits _ _ _ _ _ r (Option.some.inj (ifp q4 (gd (ifp q1 h)).2))))
def en_stagedNeverFits (A : Nat → Int32 → Int32) (p1 : Int32) : Option (Int32) := lp_stagedNeverFits 1000 2 p1 (0 : Int32) A
theorem een_stagedNeverFits (A : Nat → Int32 → Int32) (p1 : Int32) : en_stagedNeverFits A p1 = lp_stagedNeverFits 1000 2 p1 (0 : Int32) A := Eq.trans rfl rfl
def R_stagedNeverFits (A : Nat → Int32 → Int32) (p1 : Int32) : Int32 := (en_stagedNeverFits A p1).getD (0)
theorem eR_stagedNeverFits (A : Nat → Int32 → Int32) (p1 : Int32) : R_stagedNeverFits A p1 = (en_stagedNeverFits A p1).getD (0) := Eq.trans rfl rfl
set_option maxRecDepth 65536 in
set_option maxHeartbeats 4000000 in
theorem run_stagedNeverFits {l : Launch} {Z : State} {a0 : Array Value} (H : OK Z a0) (F : Nat → Int32) (G : Nat → Int64) (A : Nat → Int32 → Int32) (B : Nat → Int32 → Int64) (p1 : Int32) (e1 : (en_stagedNeverFits A p1).isSome = true) :
    Wk l Z (MoC Z cdC) md_stagedNeverFits 0 [.val (.ref 0), .val (.int p1), .unset, .unset, .unset] [] (15, F, G, A, B) 0 0 (fun v w' => v = some (.int (R_stagedNeverFits A p1)) ∧ w' = (15, F, G, A, B)) := by
  obtain ⟨r, h⟩ := Option.isSome_iff_exists.mp e1
  have e : R_stagedNeverFits A p1 = r := (eR_stagedNeverFits A p1).trans (getD_some h)
  rw [e]
  rw [een_stagedNeverFits] at h
  exact wp_stagedNeverFits H F G A B p1 ((lpw_stagedNeverFits H F G A B _ _ _ _) h)
set_option maxRecDepth 65536 in
set_option maxHeartbeats 4000000 in
theorem wp_lowestFreeSlot {l : Launch} {Z : State} {a0 : Array Value} (H : OK Z a0) (F : Nat → Int32) (G : Nat → Int64) (A : Nat → Int32 → Int32) (B : Nat → Int32 → Int64) {Q : Option Value → WO → Prop} (h2 : 0 < (F 1) → Wk l Z (MoC Z cdC) md_lowestFreeSlot 11 [.val (.ref 0), .val (.int (0 : Int32))] [] (15, F, G, A, B) 0 0 Q) (h3 : ¬ 0 < (F 1) → Q (some (.int (-1 : Int32))) (15, F, G, A, B)) :
    Wk l Z (MoC Z cdC) md_lowestFreeSlot 0 [.val (.ref 0), .unset] [] (15, F, G, A, B) 0 0 Q := by
  refine Wk.aloadN o_lowestFreeSlot_0 rfl ?_
  refine Wk.getI (mI_freeCount) (wf_freeCount H) o_lowestFreeSlot_1 (x := (F 1)) rfl ?_
  refine Wk.if_gt o_lowestFreeSlot_4 (fun q1 => ?_) (fun q1 => ?_)
  · refine Wk.iconst o_lowestFreeSlot_9 (z := (0 : Int32)) (by decide) ?_
    refine Wk.istoreN o_lowestFreeSlot_10 (Or.inl rfl) (L' := [.val (.ref 0), .val (.int (0 : Int32))]) rfl ?_
    exact (h2 q1)
  · refine Wk.iconst o_lowestFreeSlot_7 (z := (-1 : Int32)) (by decide) ?_
    exact Wk.ireturn mrC rfl o_lowestFreeSlot_8 rfl (by decide) (by decide) (h3 q1)

set_option maxRecDepth 65536 in
set_option maxHeartbeats 4000000 in
theorem wp_lowestFreeSlot_11 {l : Launch} {Z : State} {a0 : Array Value} (H : OK Z a0) (F : Nat → Int32) (G : Nat → Int64) (A : Nat → Int32 → Int32) (B : Nat → Int32 → Int64) (v1 : Int32) {Q : Option Value → WO → Prop} (h2 : ¬ v1 < (32 : Int32) → Q (some (.int (-1 : Int32))) (15, F, G, A, B)) (s3 : v1 < (32 : Int32) → ¬ v1 < 0) (h5 : v1 < (32 : Int32) → ¬ ((A 10) v1) = 0 → Wk l Z (MoC Z cdC) md_lowestFreeSlot 11 [.val (.ref 0), .val (.int (v1 + (1 : Int32)))] [] (15, F, G, A, B) 0 0 Q) (h6 : v1 < (32 : Int32) → ((A 10) v1) = 0 → Q (some (.int v1)) (15, F, G, A, B)) :
    Wk l Z (MoC Z cdC) md_lowestFreeSlot 11 [.val (.ref 0), .val (.int v1)] [] (15, F, G, A, B) 0 0 Q := by
  refine Wk.iloadN o_lowestFreeSlot_11 rfl ?_
  refine Wk.bipush o_lowestFreeSlot_12 (z := (32 : Int32)) (by decide) ?_
  refine Wk.icmp_ge o_lowestFreeSlot_14 (fun q1 => ?_) (fun q1 => ?_)
  · refine Wk.iconst o_lowestFreeSlot_34 (z := (-1 : Int32)) (by decide) ?_
    exact Wk.ireturn mrC rfl o_lowestFreeSlot_35 rfl (by decide) (by decide) (h2 q1)
  · refine Wk.aloadN o_lowestFreeSlot_17 rfl ?_
    refine Wk.getA (mA_slotState) (by decide) (i' := 11) rfl (wf_slotState H) o_lowestFreeSlot_18 ?_
    refine Wk.iloadN o_lowestFreeSlot_21 rfl ?_
    refine Wk.iaload (mA_slotState) (by decide) (i' := 11) rfl (s3 q1) q1 o_lowestFreeSlot_22 (y := ((A 10) v1)) rfl ?_
    refine Wk.if_ne o_lowestFreeSlot_23 (fun q4 => ?_) (fun q4 => ?_)
    · refine Wk.iinc o_lowestFreeSlot_28 rfl (z := (v1 + (1 : Int32))) rfl (L' := [.val (.ref 0), .val (.int (v1 + (1 : Int32)))]) rfl ?_
      refine Wk.goto o_lowestFreeSlot_31 ?_
      exact (h5 q1 q4)
    · refine Wk.iloadN o_lowestFreeSlot_26 rfl ?_
      exact Wk.ireturn mrC rfl o_lowestFreeSlot_27 rfl (by decide) (by decide) (h6 q1 q4)

theorem rt_lowestFreeSlot (F : Nat → Int32) (G : Nat → Int64) (A : Nat → Int32 → Int32) (B : Nat → Int32 → Int64) (v0 : Int32) (r : Int32) (e : v0 = r) : some (Value.int v0) = some (.int r) ∧ (15, F, G, A, B) = (15, F, G, A, B) := by subst e; exact ⟨rfl, rfl⟩
def lp_lowestFreeSlot : Nat → Nat → Int32 → (Nat → Int32) → (Nat → Int32 → Int32) → Option (Int32)
  | 0, _, _, _, _ => none
  | n + 1, tag, v1, F, A => if tag = 11 then (if v1 < (32 : Int32) then (if (¬ v1 < 0) then (if ((A 10) v1) = 0 then some (v1) else lp_lowestFreeSlot n 11 (v1 + (1 : Int32)) F A) else none) else some ((-1 : Int32))) else none
theorem lp_lowestFreeSlot_z (tag : Nat) (v1 : Int32) (F : Nat → Int32) (A : Nat → Int32 → Int32) : lp_lowestFreeSlot 0 tag v1 F A = none := Eq.trans rfl rfl
theorem lp_lowestFreeSlot_11 (n : Nat) (v1 : Int32) (F : Nat → Int32) (A : Nat → Int32 → Int32) : lp_lowestFreeSlot (n + 1) 11 v1 F A = (if v1 < (32 : Int32) then (if (¬ v1 < 0) then (if ((A 10) v1) = 0 then some (v1) else lp_lowestFreeSlot n 11 (v1 + (1 : Int32)) F A) else none) else some ((-1 : Int32))) := by
  rw [lp_lowestFreeSlot, if_pos rfl]
set_option maxRecDepth 65536 in
set_option maxHeartbeats 4000000 in
theorem lpw_lowestFreeSlot {l : Launch} {Z : State} {a0 : Array Value} (H : OK Z a0) (F : Nat → Int32) (G : Nat → Int64) (A : Nat → Int32 → Int32) (B : Nat → Int32 → Int64) : ∀ (n : Nat) (v1 : Int32) (r : Int32), (lp_lowestFreeSlot n 11 v1 F A = some r → Wk l Z (MoC Z cdC) md_lowestFreeSlot 11 [.val (.ref 0), .val (.int v1)] [] (15, F, G, A, B) 0 0 (fun v w' => v = some (.int r) ∧ w' = (15, F, G, A, B))) := by
  intro n
  induction n with
  | zero =>
    intro v1  r
    exact (fun h => by rw [lp_lowestFreeSlot_z] at h; cases h)
  | succ n ih =>
    intro v1  r
    refine fun h => ?_
    · rw [lp_lowestFreeSlot_11] at h
      exact wp_lowestFreeSlot_11 H F G A B v1 (fun q1 => (rt_lowestFreeSlot _ _ _ _ _ r (Option.some.inj (ifn q1 h)))) (fun q1 => (gd (ifp q1 h)).1) (fun q1 q4 => (ih _ _) (ifn q4 (gd (ifp q1 h)).2)) (fun q1 q4 => (rt_lowestFreeSlot _ _ _ _ _ r (Option.some.inj (ifp q4 (gd (ifp q1 h)).2))))
def en_lowestFreeSlot (F : Nat → Int32) (A : Nat → Int32 → Int32) : Option (Int32) := (if 0 < (F 1) then lp_lowestFreeSlot 1000 11 (0 : Int32) F A else some ((-1 : Int32)))
theorem een_lowestFreeSlot (F : Nat → Int32) (A : Nat → Int32 → Int32) : en_lowestFreeSlot F A  = (if 0 < (F 1) then lp_lowestFreeSlot 1000 11 (0 : Int32) F A else some ((-1 : Int32))) := Eq.trans rfl rfl
def R_lowestFreeSlot (F : Nat → Int32) (A : Nat → Int32 → Int32) : Int32 := (en_lowestFreeSlot F A ).getD (0)
theorem eR_lowestFreeSlot (F : Nat → Int32) (A : Nat → Int32 → Int32) : R_lowestFreeSlot F A  = (en_lowestFreeSlot F A ).getD (0) := Eq.trans rfl rfl
set_option maxRecDepth 65536 in
set_option maxHeartbeats 4000000 in
theorem run_lowestFreeSlot {l : Launch} {Z : State} {a0 : Array Value} (H : OK Z a0) (F : Nat → Int32) (G : Nat → Int64) (A : Nat → Int32 → Int32) (B : Nat → Int32 → Int64) (e1 : (en_lowestFreeSlot F A ).isSome = true) :
    Wk l Z (MoC Z cdC) md_lowestFreeSlot 0 [.val (.ref 0), .unset] [] (15, F, G, A, B) 0 0 (fun v w' => v = some (.int (R_lowestFreeSlot F A )) ∧ w' = (15, F, G, A, B)) := by
  obtain ⟨r, h⟩ := Option.isSome_iff_exists.mp e1
  have e : R_lowestFreeSlot F A  = r := (eR_lowestFreeSlot F A ).trans (getD_some h)
  rw [e]
  rw [een_lowestFreeSlot] at h
  exact wp_lowestFreeSlot H F G A B  (fun q1 => (lpw_lowestFreeSlot H F G A B _ _ _) (ifp q1 h)) (fun q1 => (rt_lowestFreeSlot _ _ _ _ _ r (Option.some.inj (ifn q1 h))))
set_option maxRecDepth 65536 in
set_option maxHeartbeats 4000000 in
theorem wp_occupySlot {l : Launch} {Z : State} {a0 : Array Value} (H : OK Z a0) (F : Nat → Int32) (G : Nat → Int64) (A : Nat → Int32 → Int32) (B : Nat → Int32 → Int64) (p1 : Int32) (p2 : Int32) (p3 : Int32) {Q : Option Value → WO → Prop} (s1 : ¬ p1 < 0) (s2 : p1 < (32 : Int32)) (h3 : Wk l Z (MoC Z cdC) md_occupySlot 24 [.val (.ref 0), .val (.int p1), .val (.int p2), .unset, .val (.int (0 : Int32))] [] (15, F, G, (ups (ups (ups A 10 (ups (A 10) p1 (1 : Int32))) 11 (ups (A 11) p1 p2)) 12 (ups (A 12) p1 p3)), B) 0 0 Q) :
    Wk l Z (MoC Z cdC) md_occupySlot 0 [.val (.ref 0), .val (.int p1), .val (.int p2), .val (.int p3), .unset] [] (15, F, G, A, B) 0 0 Q := by
  refine Wk.aloadN o_occupySlot_0 rfl ?_
  refine Wk.getA (mA_slotState) (by decide) (i' := 11) rfl (wf_slotState H) o_occupySlot_1 ?_
  refine Wk.iloadN o_occupySlot_4 rfl ?_
  refine Wk.iconst o_occupySlot_5 (z := (1 : Int32)) (by decide) ?_
  refine Wk.iastore (coC H) (f := (A 10)) (mA_slotState) rfl (by decide) (i' := 11) rfl s1 s2 o_occupySlot_6 ?_
  refine Wk.aloadN o_occupySlot_7 rfl ?_
  refine Wk.getA (mA_slotUser) (by decide) (i' := 12) rfl (wf_slotUser H) o_occupySlot_8 ?_
  refine Wk.iloadN o_occupySlot_11 rfl ?_
  refine Wk.iloadN o_occupySlot_12 rfl ?_
  refine Wk.iastore (coC H) (f := (A 11)) (mA_slotUser) rfl (by decide) (i' := 12) rfl s1 s2 o_occupySlot_13 ?_
  refine Wk.aloadN o_occupySlot_14 rfl ?_
  refine Wk.getA (mA_slotGang) (by decide) (i' := 13) rfl (wf_slotGang H) o_occupySlot_15 ?_
  refine Wk.iloadN o_occupySlot_18 rfl ?_
  refine Wk.iloadN o_occupySlot_19 rfl ?_
  refine Wk.iastore (coC H) (f := (A 12)) (mA_slotGang) rfl (by decide) (i' := 13) rfl s1 s2 o_occupySlot_20 ?_
  refine Wk.iconst o_occupySlot_21 (z := (0 : Int32)) (by decide) ?_
  refine Wk.istore o_occupySlot_22 (Or.inl rfl) (L' := [.val (.ref 0), .val (.int p1), .val (.int p2), .val (.int p3), .val (.int (0 : Int32))]) rfl ?_
  refine Wk.forget [false, false, false, true, false] (L' := [.val (.ref 0), .val (.int p1), .val (.int p2), .unset, .val (.int (0 : Int32))]) rfl rfl ?_
  exact h3

set_option maxRecDepth 65536 in
set_option maxHeartbeats 4000000 in
theorem wp_occupySlot_24 {l : Launch} {Z : State} {a0 : Array Value} (H : OK Z a0) (F : Nat → Int32) (G : Nat → Int64) (A : Nat → Int32 → Int32) (B : Nat → Int32 → Int64) (v1 : Int32) (v2 : Int32) (v4 : Int32) {Q : Option Value → WO → Prop} (s2 : ¬ v4 < (3 : Int32) → ¬ v1 < 0) (s3 : ¬ v4 < (3 : Int32) → v1 < (32 : Int32)) (s4 : ¬ v4 < (3 : Int32) → ¬ v2 < 0) (s5 : ¬ v4 < (3 : Int32) → v2 < (8 : Int32)) (h9 : ¬ v4 < (3 : Int32) → ¬ ((A 7) v2) < 0 → Q none (15, (ups F 1 ((F 1) - (1 : Int32))), (ups G 0 ((G 0) + (1 : Int64))), (ups A 6 (ups (A 6) v2 (((A 6) v2) + (1 : Int32)))), (ups B 14 (ups (B 14) v1 (G 0))))) (s10 : ¬ v4 < (3 : Int32) → ((A 7) v2) < 0 → ¬ v2 < 0) (s11 : ¬ v4 < (3 : Int32) → ((A 7) v2) < 0 → v2 < (8 : Int32)) (h12 : ¬ v4 < (3 : Int32) → ((A 7) v2) < 0 → Q none (15, (ups F 1 ((F 1) - (1 : Int32))), (ups G 0 ((G 0) + (1 : Int64))), (ups (ups A 6 (ups (A 6) v2 (((A 6) v2) + (1 : Int32)))) 7 (ups (A 7) v2 v1)), (ups B 14 (ups (B 14) v1 (G 0))))) (s13 : v4 < (3 : Int32) → ¬ v4 < 0) (s14 : v4 < (3 : Int32) → ¬ ((v1 * (3 : Int32)) + v4) < 0) (s15 : v4 < (3 : Int32) → ((v1 * (3 : Int32)) + v4) < (96 : Int32)) (h16 : v4 < (3 : Int32) → Wk l Z (MoC Z cdC) md_occupySlot 24 [.val (.ref 0), .val (.int v1), .val (.int v2), .unset, .val (.int (v4 + (1 : Int32)))] [] (15, F, G, (ups A 13 (ups (A 13) ((v1 * (3 : Int32)) + v4) ((A 2) v4))), B) 0 0 Q) :
    Wk l Z (MoC Z cdC) md_occupySlot 24 [.val (.ref 0), .val (.int v1), .val (.int v2), .unset, .val (.int v4)] [] (15, F, G, A, B) 0 0 Q := by
  refine Wk.iload o_occupySlot_24 rfl ?_
  refine Wk.iconst o_occupySlot_26 (z := (3 : Int32)) (by decide) ?_
  refine Wk.icmp_ge o_occupySlot_27 (fun q1 => ?_) (fun q1 => ?_)
  · refine Wk.aloadN o_occupySlot_54 rfl ?_
    refine Wk.getA (mA_slotSeq) (by decide) (i' := 15) rfl (wf_slotSeq H) o_occupySlot_55 ?_
    refine Wk.iloadN o_occupySlot_58 rfl ?_
    refine Wk.aloadN o_occupySlot_59 rfl ?_
    refine Wk.getJ (mJ_seqCounter) (wf_seqCounter H) o_occupySlot_60 (x := (G 0)) rfl ?_
    refine Wk.lastore (coC H) (f := (B 14)) (mA_slotSeq) rfl (by decide) (i' := 15) rfl (s2 q1) (s3 q1) o_occupySlot_63 ?_
    refine Wk.aloadN o_occupySlot_64 rfl ?_
    refine Wk.dup o_occupySlot_65 rfl ?_
    refine Wk.getJ (mJ_seqCounter) (wf_seqCounter H) o_occupySlot_66 (x := (G 0)) rfl ?_
    refine Wk.lconst o_occupySlot_69 (z := (1 : Int64)) (by decide) ?_
    refine Wk.ladd o_occupySlot_70 ?_
    refine Wk.putJ (coC H) (mJ_seqCounter) (wf_seqCounter H) (Or.inl (wy_seqCounter H)) o_occupySlot_71 ?_
    refine Wk.aloadN o_occupySlot_74 rfl ?_
    refine Wk.dup o_occupySlot_75 rfl ?_
    refine Wk.getI (mI_freeCount) (wf_freeCount H) o_occupySlot_76 (x := (F 1)) rfl ?_
    refine Wk.iconst o_occupySlot_79 (z := (1 : Int32)) (by decide) ?_
    refine Wk.isub o_occupySlot_80 ?_
    refine Wk.putI (coC H) (mI_freeCount) (wf_freeCount H) (Or.inl (wy_freeCount H)) o_occupySlot_81 ?_
    refine Wk.aloadN o_occupySlot_84 rfl ?_
    refine Wk.getA (mA_pendingCount) (by decide) (i' := 7) rfl (wf_pendingCount H) o_occupySlot_85 ?_
    refine Wk.iloadN o_occupySlot_88 rfl ?_
    refine Wk.dup2 o_occupySlot_89 rfl rfl ?_
    refine Wk.iaload (mA_pendingCount) (by decide) (i' := 7) rfl (s4 q1) (s5 q1) o_occupySlot_90 (y := ((A 6) v2)) rfl ?_
    refine Wk.iconst o_occupySlot_91 (z := (1 : Int32)) (by decide) ?_
    refine Wk.iadd o_occupySlot_92 ?_
    refine Wk.iastore (coC H) (f := (A 6)) (mA_pendingCount) rfl (by decide) (i' := 7) rfl (s4 q1) (s5 q1) o_occupySlot_93 ?_
    refine Wk.aloadN o_occupySlot_94 rfl ?_
    refine Wk.getA (mA_headSlot) (by decide) (i' := 8) rfl (wf_headSlot H) o_occupySlot_95 ?_
    refine Wk.iloadN o_occupySlot_98 rfl ?_
    refine Wk.iaload (mA_headSlot) (by decide) (i' := 8) rfl (s4 q1) (s5 q1) o_occupySlot_99 (y := ((A 7) v2)) rfl ?_
    refine Wk.if_ge o_occupySlot_100 (fun q6 => ?_) (fun q6 => ?_)
    · exact Wk.ret mrC rfl o_occupySlot_110 rfl (by decide) (by decide) (h9 q1 q6)
    · refine Wk.aloadN o_occupySlot_103 rfl ?_
      refine Wk.getA (mA_headSlot) (by decide) (i' := 8) rfl (wf_headSlot H) o_occupySlot_104 ?_
      refine Wk.iloadN o_occupySlot_107 rfl ?_
      refine Wk.iloadN o_occupySlot_108 rfl ?_
      refine Wk.iastore (coC H) (f := (A 7)) (mA_headSlot) rfl (by decide) (i' := 8) rfl (s10 q1 q6) (s11 q1 q6) o_occupySlot_109 ?_
      exact Wk.ret mrC rfl o_occupySlot_110 rfl (by decide) (by decide) (h12 q1 q6)
  · refine Wk.aloadN o_occupySlot_30 rfl ?_
    refine Wk.getA (mA_slotDemand) (by decide) (i' := 14) rfl (wf_slotDemand H) o_occupySlot_31 ?_
    refine Wk.iloadN o_occupySlot_34 rfl ?_
    refine Wk.iconst o_occupySlot_35 (z := (3 : Int32)) (by decide) ?_
    refine Wk.imul o_occupySlot_36 ?_
    refine Wk.iload o_occupySlot_37 rfl ?_
    refine Wk.iadd o_occupySlot_39 ?_
    refine Wk.aloadN o_occupySlot_40 rfl ?_
    refine Wk.getA (mA_staged) (by decide) (i' := 3) rfl (wf_staged H) o_occupySlot_41 ?_
    refine Wk.iload o_occupySlot_44 rfl ?_
    refine Wk.iaload (mA_staged) (by decide) (i' := 3) rfl (s13 q1) q1 o_occupySlot_46 (y := ((A 2) v4)) rfl ?_
    refine Wk.iastore (coC H) (f := (A 13)) (mA_slotDemand) rfl (by decide) (i' := 14) rfl (s14 q1) (s15 q1) o_occupySlot_47 ?_
    refine Wk.iinc o_occupySlot_48 rfl (z := (v4 + (1 : Int32))) rfl (L' := [.val (.ref 0), .val (.int v1), .val (.int v2), .unset, .val (.int (v4 + (1 : Int32)))]) rfl ?_
    refine Wk.goto o_occupySlot_51 ?_
    exact (h16 q1)

theorem rt_occupySlot (v0 : Int32) (xF : Nat → Int32) (xG : Nat → Int64) (xA : Nat → Int32 → Int32) (xB : Nat → Int32 → Int64) (r : Int32 × (Nat → Int32) × (Nat → Int64) × (Nat → Int32 → Int32) × (Nat → Int32 → Int64)) (e : (v0, xF, xG, xA, xB) = r) : (none : Option Value) = none ∧ (15, xF, xG, xA, xB) = (15, r.2.1, r.2.2.1, r.2.2.2.1, r.2.2.2.2) := by subst e; exact ⟨rfl, rfl⟩
def lp_occupySlot : Nat → Nat → Int32 → Int32 → Int32 → (Nat → Int32) → (Nat → Int64) → (Nat → Int32 → Int32) → (Nat → Int32 → Int64) → Option (Int32 × (Nat → Int32) × (Nat → Int64) × (Nat → Int32 → Int32) × (Nat → Int32 → Int64))
  | 0, _, _, _, _, _, _, _, _ => none
  | n + 1, tag, v1, v2, v4, F, G, A, B => if tag = 24 then (if v4 < (3 : Int32) then (if (¬ v4 < 0) ∧ (¬ ((v1 * (3 : Int32)) + v4) < 0) ∧ (((v1 * (3 : Int32)) + v4) < (96 : Int32)) then lp_occupySlot n 24 v1 v2 (v4 + (1 : Int32)) F G (ups A 13 (ups (A 13) ((v1 * (3 : Int32)) + v4) ((A 2) v4))) B else none) else (if (¬ v1 < 0) ∧ (v1 < (32 : Int32)) ∧ (¬ v2 < 0) ∧ (v2 < (8 : Int32)) then (if ((A 7) v2) < 0 then (if (¬ v2 < 0) ∧ (v2 < (8 : Int32)) then some ((0 : Int32), (ups F 1 ((F 1) - (1 : Int32))), (ups G 0 ((G 0) + (1 : Int64))), (ups (ups A 6 (ups (A 6) v2 (((A 6) v2) + (1 : Int32)))) 7 (ups (A 7) v2 v1)), (ups B 14 (ups (B 14) v1 (G 0)))) else none) else some ((0 : Int32), (ups F 1 ((F 1) - (1 : Int32))), (ups G 0 ((G 0) + (1 : Int64))), (ups A 6 (ups (A 6) v2 (((A 6) v2) + (1 : Int32)))), (ups B 14 (ups (B 14) v1 (G 0))))) else none)) else none
theorem lp_occupySlot_z (tag : Nat) (v1 : Int32) (v2 : Int32) (v4 : Int32) (F : Nat → Int32) (G : Nat → Int64) (A : Nat → Int32 → Int32) (B : Nat → Int32 → Int64) : lp_occupySlot 0 tag v1 v2 v4 F G A B = none := Eq.trans rfl rfl
theorem lp_occupySlot_24 (n : Nat) (v1 : Int32) (v2 : Int32) (v4 : Int32) (F : Nat → Int32) (G : Nat → Int64) (A : Nat → Int32 → Int32) (B : Nat → Int32 → Int64) : lp_occupySlot (n + 1) 24 v1 v2 v4 F G A B = (if v4 < (3 : Int32) then (if (¬ v4 < 0) ∧ (¬ ((v1 * (3 : Int32)) + v4) < 0) ∧ (((v1 * (3 : Int32)) + v4) < (96 : Int32)) then lp_occupySlot n 24 v1 v2 (v4 + (1 : Int32)) F G (ups A 13 (ups (A 13) ((v1 * (3 : Int32)) + v4) ((A 2) v4))) B else none) else (if (¬ v1 < 0) ∧ (v1 < (32 : Int32)) ∧ (¬ v2 < 0) ∧ (v2 < (8 : Int32)) then (if ((A 7) v2) < 0 then (if (¬ v2 < 0) ∧ (v2 < (8 : Int32)) then some ((0 : Int32), (ups F 1 ((F 1) - (1 : Int32))), (ups G 0 ((G 0) + (1 : Int64))), (ups (ups A 6 (ups (A 6) v2 (((A 6) v2) + (1 : Int32)))) 7 (ups (A 7) v2 v1)), (ups B 14 (ups (B 14) v1 (G 0)))) else none) else some ((0 : Int32), (ups F 1 ((F 1) - (1 : Int32))), (ups G 0 ((G 0) + (1 : Int64))), (ups A 6 (ups (A 6) v2 (((A 6) v2) + (1 : Int32)))), (ups B 14 (ups (B 14) v1 (G 0))))) else none)) := by
  rw [lp_occupySlot, if_pos rfl]
set_option maxRecDepth 65536 in
set_option maxHeartbeats 4000000 in
theorem lpw_occupySlot {l : Launch} {Z : State} {a0 : Array Value} (H : OK Z a0) : ∀ (n : Nat) (v1 : Int32) (v2 : Int32) (v4 : Int32) (F : Nat → Int32) (G : Nat → Int64) (A : Nat → Int32 → Int32) (B : Nat → Int32 → Int64) (r : Int32 × (Nat → Int32) × (Nat → Int64) × (Nat → Int32 → Int32) × (Nat → Int32 → Int64)), (lp_occupySlot n 24 v1 v2 v4 F G A B = some r → Wk l Z (MoC Z cdC) md_occupySlot 24 [.val (.ref 0), .val (.int v1), .val (.int v2), .unset, .val (.int v4)] [] (15, F, G, A, B) 0 0 (fun v w' => v = none ∧ w' = (15, r.2.1, r.2.2.1, r.2.2.2.1, r.2.2.2.2))) := by
  intro n
  induction n with
  | zero =>
    intro v1 v2 v4 F G A B r
    exact (fun h => by rw [lp_occupySlot_z] at h; cases h)
  | succ n ih =>
    intro v1 v2 v4 F G A B r
    refine fun h => ?_
    · rw [lp_occupySlot_24] at h
      exact wp_occupySlot_24 H F G A B v1 v2 v4 (fun q1 => (gd (ifn q1 h)).1.1) (fun q1 => (gd (ifn q1 h)).1.2.1) (fun q1 => (gd (ifn q1 h)).1.2.2.1) (fun q1 => (gd (ifn q1 h)).1.2.2.2) (fun q1 q6 => (rt_occupySlot _ _ _ _ _ r (Option.some.inj (ifn q6 (gd (ifn q1 h)).2)))) (fun q1 q6 => (gd (ifp q6 (gd (ifn q1 h)).2)).1.1) (fun q1 q6 => (gd (ifp q6 (gd (ifn q1 h)).2)).1.2) (fun q1 q6 => (rt_occupySlot _ _ _ _ _ r (Option.some.inj (gd (ifp q6 (gd (ifn q1 h)).2)).2))) (fun q1 => (gd (ifp q1 h)).1.1) (fun q1 => (gd (ifp q1 h)).1.2.1) (fun q1 => (gd (ifp q1 h)).1.2.2) (fun q1 => (ih _ _ _ _ _ _ _ _) (gd (ifp q1 h)).2)
def en_occupySlot (F : Nat → Int32) (G : Nat → Int64) (A : Nat → Int32 → Int32) (B : Nat → Int32 → Int64) (p1 : Int32) (p2 : Int32) (p3 : Int32) : Option (Int32 × (Nat → Int32) × (Nat → Int64) × (Nat → Int32 → Int32) × (Nat → Int32 → Int64)) := (if (¬ p1 < 0) ∧ (p1 < (32 : Int32)) then lp_occupySlot 1000 24 p1 p2 (0 : Int32) F G (ups (ups (ups A 10 (ups (A 10) p1 (1 : Int32))) 11 (ups (A 11) p1 p2)) 12 (ups (A 12) p1 p3)) B else none)
theorem een_occupySlot (F : Nat → Int32) (G : Nat → Int64) (A : Nat → Int32 → Int32) (B : Nat → Int32 → Int64) (p1 : Int32) (p2 : Int32) (p3 : Int32) : en_occupySlot F G A B p1 p2 p3 = (if (¬ p1 < 0) ∧ (p1 < (32 : Int32)) then lp_occupySlot 1000 24 p1 p2 (0 : Int32) F G (ups (ups (ups A 10 (ups (A 10) p1 (1 : Int32))) 11 (ups (A 11) p1 p2)) 12 (ups (A 12) p1 p3)) B else none) := Eq.trans rfl rfl
def R_occupySlot (F : Nat → Int32) (G : Nat → Int64) (A : Nat → Int32 → Int32) (B : Nat → Int32 → Int64) (p1 : Int32) (p2 : Int32) (p3 : Int32) : Int32 × (Nat → Int32) × (Nat → Int64) × (Nat → Int32 → Int32) × (Nat → Int32 → Int64) := (en_occupySlot F G A B p1 p2 p3).getD (0, (fun _ => 0), (fun _ => 0), (fun _ _ => 0), (fun _ _ => 0))
theorem eR_occupySlot (F : Nat → Int32) (G : Nat → Int64) (A : Nat → Int32 → Int32) (B : Nat → Int32 → Int64) (p1 : Int32) (p2 : Int32) (p3 : Int32) : R_occupySlot F G A B p1 p2 p3 = (en_occupySlot F G A B p1 p2 p3).getD (0, (fun _ => 0), (fun _ => 0), (fun _ _ => 0), (fun _ _ => 0)) := Eq.trans rfl rfl
set_option maxRecDepth 65536 in
set_option maxHeartbeats 4000000 in
theorem run_occupySlot {l : Launch} {Z : State} {a0 : Array Value} (H : OK Z a0) (F : Nat → Int32) (G : Nat → Int64) (A : Nat → Int32 → Int32) (B : Nat → Int32 → Int64) (p1 : Int32) (p2 : Int32) (p3 : Int32) (e1 : (en_occupySlot F G A B p1 p2 p3).isSome = true) :
    Wk l Z (MoC Z cdC) md_occupySlot 0 [.val (.ref 0), .val (.int p1), .val (.int p2), .val (.int p3), .unset] [] (15, F, G, A, B) 0 0 (fun v w' => v = none ∧ w' = (15, (R_occupySlot F G A B p1 p2 p3).2.1, (R_occupySlot F G A B p1 p2 p3).2.2.1, (R_occupySlot F G A B p1 p2 p3).2.2.2.1, (R_occupySlot F G A B p1 p2 p3).2.2.2.2)) := by
  obtain ⟨r, h⟩ := Option.isSome_iff_exists.mp e1
  have e : R_occupySlot F G A B p1 p2 p3 = r := (eR_occupySlot F G A B p1 p2 p3).trans (getD_some h)
  rw [e]
  rw [een_occupySlot] at h
  exact wp_occupySlot H F G A B p1 p2 p3 ((gd h).1.1) ((gd h).1.2) ((lpw_occupySlot H  _ _ _ _ _ _ _ _ _) (gd h).2)
set_option maxRecDepth 65536 in
set_option maxHeartbeats 4000000 in
theorem wp_isTask {l : Launch} {Z : State} {a0 : Array Value} (H : OK Z a0) (F : Nat → Int32) (G : Nat → Int64) (A : Nat → Int32 → Int32) (B : Nat → Int32 → Int64) (p1 : Int32) {Q : Option Value → WO → Prop} (h5 : Q (some (.int (nar .boolean (if p1 < 0 then (0 : Int32) else (if p1 < (32 : Int32) then (1 : Int32) else (0 : Int32)))))) (15, F, G, A, B)) :
    Wk l Z (MoC Z cdC) md_isTask 0 [.val (.ref 0), .val (.int p1)] [] (15, F, G, A, B) 0 0 Q := by
  refine Wk.iloadN o_isTask_0 rfl ?_
  have J4 : Wk l Z (MoC Z cdC) md_isTask 15 [.val (.ref 0), .val (.int p1)] [.int (if p1 < 0 then (0 : Int32) else (if p1 < (32 : Int32) then (1 : Int32) else (0 : Int32)))] (15, F, G, A, B) 0 0 Q := by
    exact Wk.zreturn mrC rfl o_isTask_15 rfl (by decide) (by decide) (y := (nar .boolean (if p1 < 0 then (0 : Int32) else (if p1 < (32 : Int32) then (1 : Int32) else (0 : Int32))))) rfl h5
  refine Wk.if_lt o_isTask_1 (fun q1 => ?_) (fun q1 => ?_)
  · refine Wk.iconst o_isTask_14 (z := (0 : Int32)) (by decide) ?_
    first | (rw [show ((if p1 < 0 then (0 : Int32) else (if p1 < (32 : Int32) then (1 : Int32) else (0 : Int32))) : Int32) = (0 : Int32) from if_pos q1] at J4; exact J4) | exact J4 | (simp only [if_pos q1] at J4 ⊢; exact J4)
  · refine Wk.iloadN o_isTask_4 rfl ?_
    refine Wk.bipush o_isTask_5 (z := (32 : Int32)) (by decide) ?_
    refine Wk.icmp_ge o_isTask_7 (fun q2 => ?_) (fun q2 => ?_)
    · refine Wk.iconst o_isTask_14 (z := (0 : Int32)) (by decide) ?_
      first | (rw [show ((if p1 < 0 then (0 : Int32) else (if p1 < (32 : Int32) then (1 : Int32) else (0 : Int32))) : Int32) = (0 : Int32) from Eq.trans (if_neg q1) <| if_neg q2] at J4; exact J4) | exact J4 | (simp only [if_neg q1, if_neg q2] at J4 ⊢; exact J4)
    · refine Wk.iconst o_isTask_10 (z := (1 : Int32)) (by decide) ?_
      refine Wk.goto o_isTask_11 ?_
      first | (rw [show ((if p1 < 0 then (0 : Int32) else (if p1 < (32 : Int32) then (1 : Int32) else (0 : Int32))) : Int32) = (1 : Int32) from Eq.trans (if_neg q1) <| if_pos q2] at J4; exact J4) | exact J4 | (simp only [if_neg q1, if_pos q2] at J4 ⊢; exact J4)

def f_isTask (p1 : Int32) : Int32 := (nar .boolean (if p1 < 0 then (0 : Int32) else (if p1 < (32 : Int32) then (1 : Int32) else (0 : Int32))))
theorem e_isTask (p1 : Int32) : f_isTask p1 = (nar .boolean (if p1 < 0 then (0 : Int32) else (if p1 < (32 : Int32) then (1 : Int32) else (0 : Int32)))) := Eq.trans rfl rfl
theorem bz_isTask (p1 : Int32) : nar .boolean (f_isTask p1) = f_isTask p1 := by
  unfold f_isTask
  (repeat' split) <;> first | rfl | exact nar_nar _
theorem run_isTask {l : Launch} {Z : State} {a0 : Array Value} (H : OK Z a0) (F : Nat → Int32) (G : Nat → Int64) (A : Nat → Int32 → Int32) (B : Nat → Int32 → Int64) (p1 : Int32) :
    Wk l Z (MoC Z cdC) md_isTask 0 [.val (.ref 0), .val (.int p1)] [] (15, F, G, A, B) 0 0 (fun v w' => v = some (.int (f_isTask p1)) ∧ w' = (15, F, G, A, B)) :=
  wp_isTask H F G A B p1 ⟨rfl, rfl⟩
set_option maxRecDepth 65536 in
set_option maxHeartbeats 4000000 in
theorem wp_isActive {l : Launch} {Z : State} {a0 : Array Value} (H : OK Z a0) (F : Nat → Int32) (G : Nat → Int64) (A : Nat → Int32 → Int32) (B : Nat → Int32 → Int64) (p1 : Int32) {Q : Option Value → WO → Prop} (s1 : ¬ p1 < 0) (s2 : p1 < (8 : Int32)) (s4 : 0 < ((A 6) p1) → ¬ p1 < 0) (s5 : 0 < ((A 6) p1) → p1 < (8 : Int32)) (h9 : Q (some (.int (nar .boolean (if 0 < ((A 6) p1) then (if ((A 5) p1) < ((A 4) p1) then (1 : Int32) else (0 : Int32)) else (0 : Int32))))) (15, F, G, A, B)) :
    Wk l Z (MoC Z cdC) md_isActive 0 [.val (.ref 0), .val (.int p1)] [] (15, F, G, A, B) 0 0 Q := by
  refine Wk.aloadN o_isActive_0 rfl ?_
  refine Wk.getA (mA_pendingCount) (by decide) (i' := 7) rfl (wf_pendingCount H) o_isActive_1 ?_
  refine Wk.iloadN o_isActive_4 rfl ?_
  refine Wk.iaload (mA_pendingCount) (by decide) (i' := 7) rfl s1 s2 o_isActive_5 (y := ((A 6) p1)) rfl ?_
  have J8 : Wk l Z (MoC Z cdC) md_isActive 29 [.val (.ref 0), .val (.int p1)] [.int (if 0 < ((A 6) p1) then (if ((A 5) p1) < ((A 4) p1) then (1 : Int32) else (0 : Int32)) else (0 : Int32))] (15, F, G, A, B) 0 0 Q := by
    exact Wk.zreturn mrC rfl o_isActive_29 rfl (by decide) (by decide) (y := (nar .boolean (if 0 < ((A 6) p1) then (if ((A 5) p1) < ((A 4) p1) then (1 : Int32) else (0 : Int32)) else (0 : Int32)))) rfl h9
  refine Wk.if_le o_isActive_6 (fun q3 => ?_) (fun q3 => ?_)
  · refine Wk.iconst o_isActive_28 (z := (0 : Int32)) (by decide) ?_
    first | (rw [show ((if 0 < ((A 6) p1) then (if ((A 5) p1) < ((A 4) p1) then (1 : Int32) else (0 : Int32)) else (0 : Int32)) : Int32) = (0 : Int32) from if_neg q3] at J8; exact J8) | exact J8 | (simp only [if_neg q3] at J8 ⊢; exact J8)
  · refine Wk.aloadN o_isActive_9 rfl ?_
    refine Wk.getA (mA_running) (by decide) (i' := 6) rfl (wf_running H) o_isActive_10 ?_
    refine Wk.iloadN o_isActive_13 rfl ?_
    refine Wk.iaload (mA_running) (by decide) (i' := 6) rfl (s4 q3) (s5 q3) o_isActive_14 (y := ((A 5) p1)) rfl ?_
    refine Wk.aloadN o_isActive_15 rfl ?_
    refine Wk.getA (mA_userCap) (by decide) (i' := 5) rfl (wf_userCap H) o_isActive_16 ?_
    refine Wk.iloadN o_isActive_19 rfl ?_
    refine Wk.iaload (mA_userCap) (by decide) (i' := 5) rfl (s4 q3) (s5 q3) o_isActive_20 (y := ((A 4) p1)) rfl ?_
    refine Wk.icmp_ge o_isActive_21 (fun q6 => ?_) (fun q6 => ?_)
    · refine Wk.iconst o_isActive_28 (z := (0 : Int32)) (by decide) ?_
      first | (rw [show ((if 0 < ((A 6) p1) then (if ((A 5) p1) < ((A 4) p1) then (1 : Int32) else (0 : Int32)) else (0 : Int32)) : Int32) = (0 : Int32) from Eq.trans (if_pos q3) <| if_neg q6] at J8; exact J8) | exact J8 | (simp only [if_pos q3, if_neg q6] at J8 ⊢; exact J8)
    · refine Wk.iconst o_isActive_24 (z := (1 : Int32)) (by decide) ?_
      refine Wk.goto o_isActive_25 ?_
      first | (rw [show ((if 0 < ((A 6) p1) then (if ((A 5) p1) < ((A 4) p1) then (1 : Int32) else (0 : Int32)) else (0 : Int32)) : Int32) = (1 : Int32) from Eq.trans (if_pos q3) <| if_pos q6] at J8; exact J8) | exact J8 | (simp only [if_pos q3, if_pos q6] at J8 ⊢; exact J8)

theorem rt_isActive (F : Nat → Int32) (G : Nat → Int64) (A : Nat → Int32 → Int32) (B : Nat → Int32 → Int64) (v0 : Int32) (r : Int32) (e : v0 = r) : some (Value.int v0) = some (.int r) ∧ (15, F, G, A, B) = (15, F, G, A, B) := by subst e; exact ⟨rfl, rfl⟩
def en_isActive (A : Nat → Int32 → Int32) (p1 : Int32) : Option (Int32) := (if (¬ p1 < 0) ∧ (p1 < (8 : Int32)) ∧ (0 < ((A 6) p1) → ¬ p1 < 0) ∧ (0 < ((A 6) p1) → p1 < (8 : Int32)) then some ((nar .boolean (if 0 < ((A 6) p1) then (if ((A 5) p1) < ((A 4) p1) then (1 : Int32) else (0 : Int32)) else (0 : Int32)))) else none)
theorem een_isActive (A : Nat → Int32 → Int32) (p1 : Int32) : en_isActive A p1 = (if (¬ p1 < 0) ∧ (p1 < (8 : Int32)) ∧ (0 < ((A 6) p1) → ¬ p1 < 0) ∧ (0 < ((A 6) p1) → p1 < (8 : Int32)) then some ((nar .boolean (if 0 < ((A 6) p1) then (if ((A 5) p1) < ((A 4) p1) then (1 : Int32) else (0 : Int32)) else (0 : Int32)))) else none) := Eq.trans rfl rfl
def R_isActive (A : Nat → Int32 → Int32) (p1 : Int32) : Int32 := (en_isActive A p1).getD (0)
theorem eR_isActive (A : Nat → Int32 → Int32) (p1 : Int32) : R_isActive A p1 = (en_isActive A p1).getD (0) := Eq.trans rfl rfl
set_option maxRecDepth 65536 in
set_option maxHeartbeats 4000000 in
theorem run_isActive {l : Launch} {Z : State} {a0 : Array Value} (H : OK Z a0) (F : Nat → Int32) (G : Nat → Int64) (A : Nat → Int32 → Int32) (B : Nat → Int32 → Int64) (p1 : Int32) (e1 : (en_isActive A p1).isSome = true) :
    Wk l Z (MoC Z cdC) md_isActive 0 [.val (.ref 0), .val (.int p1)] [] (15, F, G, A, B) 0 0 (fun v w' => v = some (.int (R_isActive A p1)) ∧ w' = (15, F, G, A, B)) := by
  obtain ⟨r, h⟩ := Option.isSome_iff_exists.mp e1
  have e : R_isActive A p1 = r := (eR_isActive A p1).trans (getD_some h)
  rw [e]
  rw [een_isActive] at h
  exact wp_isActive H F G A B p1 ((gd h).1.1) ((gd h).1.2.1) (fun q3 => ((gd h).1.2.2.1) q3) (fun q3 => ((gd h).1.2.2.2) q3) ((rt_isActive _ _ _ _ _ r (Option.some.inj (gd h).2)))
set_option maxRecDepth 65536 in
set_option maxHeartbeats 4000000 in
theorem wp_reservationIsStale {l : Launch} {Z : State} {a0 : Array Value} (H : OK Z a0) (F : Nat → Int32) (G : Nat → Int64) (A : Nat → Int32 → Int32) (B : Nat → Int32 → Int64) {Q : Option Value → WO → Prop} (s3 : ¬ (F 2) < 0 → ¬ (f_isTask (F 2)) = 0 → (F 2) < (32 : Int32)) (s5 : ¬ (F 2) < 0 → ¬ (f_isTask (F 2)) = 0 → ((A 10) (F 2)) = (1 : Int32) → (F 2) < (32 : Int32)) (s7 : ¬ (F 2) < 0 → ¬ (f_isTask (F 2)) = 0 → ((A 10) (F 2)) = (1 : Int32) → ¬ (f_isUser F ((A 11) (F 2))) = 0 → ¬ ((A 11) (F 2)) < 0) (s8 : ¬ (F 2) < 0 → ¬ (f_isTask (F 2)) = 0 → ((A 10) (F 2)) = (1 : Int32) → ¬ (f_isUser F ((A 11) (F 2))) = 0 → ((A 11) (F 2)) < (8 : Int32)) (s10 : ¬ (F 2) < 0 → ¬ (f_isTask (F 2)) = 0 → ((A 10) (F 2)) = (1 : Int32) → ¬ (f_isUser F ((A 11) (F 2))) = 0 → ((A 7) ((A 11) (F 2))) = (F 2) → (en_isActive A ((A 11) (F 2))).isSome = true) (h13 : ¬ (F 2) < 0 → ¬ (f_isTask (F 2)) = 0 → ((A 10) (F 2)) = (1 : Int32) → ¬ (f_isUser F ((A 11) (F 2))) = 0 → ((A 7) ((A 11) (F 2))) = (F 2) → Q (some (.int (nar .boolean (if (R_isActive A ((A 11) (F 2))) = 0 then (1 : Int32) else (0 : Int32))))) (15, F, G, A, B)) (h14 : ¬ (F 2) < 0 → ¬ (f_isTask (F 2)) = 0 → ((A 10) (F 2)) = (1 : Int32) → ¬ (f_isUser F ((A 11) (F 2))) = 0 → ¬ ((A 7) ((A 11) (F 2))) = (F 2) → Q (some (.int (1 : Int32))) (15, F, G, A, B)) (h15 : ¬ (F 2) < 0 → ¬ (f_isTask (F 2)) = 0 → ((A 10) (F 2)) = (1 : Int32) → (f_isUser F ((A 11) (F 2))) = 0 → Q (some (.int (1 : Int32))) (15, F, G, A, B)) (h16 : ¬ (F 2) < 0 → ¬ (f_isTask (F 2)) = 0 → ¬ ((A 10) (F 2)) = (1 : Int32) → Q (some (.int (1 : Int32))) (15, F, G, A, B)) (h17 : ¬ (F 2) < 0 → (f_isTask (F 2)) = 0 → Q (some (.int (1 : Int32))) (15, F, G, A, B)) (h18 : (F 2) < 0 → Q (some (.int (0 : Int32))) (15, F, G, A, B)) :
    Wk l Z (MoC Z cdC) md_reservationIsStale 0 [.val (.ref 0), .unset] [] (15, F, G, A, B) 0 0 Q := by
  refine Wk.aloadN o_reservationIsStale_0 rfl ?_
  refine Wk.getI (mI_reserved) (wf_reserved H) o_reservationIsStale_1 (x := (F 2)) rfl ?_
  refine Wk.if_ge o_reservationIsStale_4 (fun q1 => ?_) (fun q1 => ?_)
  · refine Wk.aloadN o_reservationIsStale_9 rfl ?_
    refine Wk.aloadN o_reservationIsStale_10 rfl ?_
    refine Wk.getI (mI_reserved) (wf_reserved H) o_reservationIsStale_11 (x := (F 2)) rfl ?_
    refine Wk.callF [.int (F 2)] [] (H.w 124 rfl) (cv_isTask H) o_reservationIsStale_14 (run_isTask H F G A B (F 2)) (wt := 0) (cu' := 0) (su' := 0) (by decide) rfl rfl rfl rfl rfl rfl rfl ?_
    refine Wk.if_ne o_reservationIsStale_17 (fun q2 => ?_) (fun q2 => ?_)
    · refine Wk.aloadN o_reservationIsStale_22 rfl ?_
      refine Wk.getA (mA_slotState) (by decide) (i' := 11) rfl (wf_slotState H) o_reservationIsStale_23 ?_
      refine Wk.aloadN o_reservationIsStale_26 rfl ?_
      refine Wk.getI (mI_reserved) (wf_reserved H) o_reservationIsStale_27 (x := (F 2)) rfl ?_
      refine Wk.iaload (mA_slotState) (by decide) (i' := 11) rfl q1 (s3 q1 q2) o_reservationIsStale_30 (y := ((A 10) (F 2))) rfl ?_
      refine Wk.iconst o_reservationIsStale_31 (z := (1 : Int32)) (by decide) ?_
      refine Wk.icmp_eq o_reservationIsStale_32 (fun q4 => ?_) (fun q4 => ?_)
      · refine Wk.aloadN o_reservationIsStale_37 rfl ?_
        refine Wk.getA (mA_slotUser) (by decide) (i' := 12) rfl (wf_slotUser H) o_reservationIsStale_38 ?_
        refine Wk.aloadN o_reservationIsStale_41 rfl ?_
        refine Wk.getI (mI_reserved) (wf_reserved H) o_reservationIsStale_42 (x := (F 2)) rfl ?_
        refine Wk.iaload (mA_slotUser) (by decide) (i' := 12) rfl q1 (s5 q1 q2 q4) o_reservationIsStale_45 (y := ((A 11) (F 2))) rfl ?_
        refine Wk.istoreN o_reservationIsStale_46 (Or.inl rfl) (L' := [.val (.ref 0), .val (.int ((A 11) (F 2)))]) rfl ?_
        refine Wk.aloadN o_reservationIsStale_47 rfl ?_
        refine Wk.iloadN o_reservationIsStale_48 rfl ?_
        refine Wk.callF [.int ((A 11) (F 2))] [] (H.w 80 rfl) (cv_isUser H) o_reservationIsStale_49 (run_isUser H F G A B ((A 11) (F 2))) (wt := 0) (cu' := 0) (su' := 0) (by decide) rfl rfl rfl rfl rfl rfl rfl ?_
        refine Wk.if_ne o_reservationIsStale_52 (fun q6 => ?_) (fun q6 => ?_)
        · refine Wk.aloadN o_reservationIsStale_57 rfl ?_
          refine Wk.getA (mA_headSlot) (by decide) (i' := 8) rfl (wf_headSlot H) o_reservationIsStale_58 ?_
          refine Wk.iloadN o_reservationIsStale_61 rfl ?_
          refine Wk.iaload (mA_headSlot) (by decide) (i' := 8) rfl (s7 q1 q2 q4 q6) (s8 q1 q2 q4 q6) o_reservationIsStale_62 (y := ((A 7) ((A 11) (F 2)))) rfl ?_
          refine Wk.aloadN o_reservationIsStale_63 rfl ?_
          refine Wk.getI (mI_reserved) (wf_reserved H) o_reservationIsStale_64 (x := (F 2)) rfl ?_
          refine Wk.icmp_eq o_reservationIsStale_67 (fun q9 => ?_) (fun q9 => ?_)
          · refine Wk.aloadN o_reservationIsStale_72 rfl ?_
            refine Wk.iloadN o_reservationIsStale_73 rfl ?_
            refine Wk.callF [.int ((A 11) (F 2))] [] (H.w 120 rfl) (cv_isActive H) o_reservationIsStale_74 (run_isActive H F G A B ((A 11) (F 2)) (s10 q1 q2 q4 q6 q9)) (wt := 0) (cu' := 0) (su' := 0) (by decide) rfl rfl rfl rfl rfl rfl rfl ?_
            have J12 : Wk l Z (MoC Z cdC) md_reservationIsStale 85 [.val (.ref 0), .val (.int ((A 11) (F 2)))] [.int (if (R_isActive A ((A 11) (F 2))) = 0 then (1 : Int32) else (0 : Int32))] (15, F, G, A, B) 0 0 Q := by
              exact Wk.zreturn mrC rfl o_reservationIsStale_85 rfl (by decide) (by decide) (y := (nar .boolean (if (R_isActive A ((A 11) (F 2))) = 0 then (1 : Int32) else (0 : Int32)))) rfl (h13 q1 q2 q4 q6 q9)
            refine Wk.if_ne o_reservationIsStale_77 (fun q11 => ?_) (fun q11 => ?_)
            · refine Wk.iconst o_reservationIsStale_84 (z := (0 : Int32)) (by decide) ?_
              first | (rw [show ((if (R_isActive A ((A 11) (F 2))) = 0 then (1 : Int32) else (0 : Int32)) : Int32) = (0 : Int32) from if_neg q11] at J12; exact J12) | exact J12 | (simp only [if_neg q11] at J12 ⊢; exact J12)
            · refine Wk.iconst o_reservationIsStale_80 (z := (1 : Int32)) (by decide) ?_
              refine Wk.goto o_reservationIsStale_81 ?_
              first | (rw [show ((if (R_isActive A ((A 11) (F 2))) = 0 then (1 : Int32) else (0 : Int32)) : Int32) = (1 : Int32) from if_pos q11] at J12; exact J12) | exact J12 | (simp only [if_pos q11] at J12 ⊢; exact J12)
          · refine Wk.iconst o_reservationIsStale_70 (z := (1 : Int32)) (by decide) ?_
            exact Wk.zreturn mrC rfl o_reservationIsStale_71 rfl (by decide) (by decide) (y := (1 : Int32)) (by decide) (h14 q1 q2 q4 q6 q9)
        · refine Wk.iconst o_reservationIsStale_55 (z := (1 : Int32)) (by decide) ?_
          exact Wk.zreturn mrC rfl o_reservationIsStale_56 rfl (by decide) (by decide) (y := (1 : Int32)) (by decide) (h15 q1 q2 q4 q6)
      · refine Wk.iconst o_reservationIsStale_35 (z := (1 : Int32)) (by decide) ?_
        exact Wk.zreturn mrC rfl o_reservationIsStale_36 rfl (by decide) (by decide) (y := (1 : Int32)) (by decide) (h16 q1 q2 q4)
    · refine Wk.iconst o_reservationIsStale_20 (z := (1 : Int32)) (by decide) ?_
      exact Wk.zreturn mrC rfl o_reservationIsStale_21 rfl (by decide) (by decide) (y := (1 : Int32)) (by decide) (h17 q1 q2)
  · refine Wk.iconst o_reservationIsStale_7 (z := (0 : Int32)) (by decide) ?_
    exact Wk.zreturn mrC rfl o_reservationIsStale_8 rfl (by decide) (by decide) (y := (0 : Int32)) (by decide) (h18 q1)

theorem rt_reservationIsStale (F : Nat → Int32) (G : Nat → Int64) (A : Nat → Int32 → Int32) (B : Nat → Int32 → Int64) (v0 : Int32) (r : Int32) (e : v0 = r) : some (Value.int v0) = some (.int r) ∧ (15, F, G, A, B) = (15, F, G, A, B) := by subst e; exact ⟨rfl, rfl⟩
def en_reservationIsStale (F : Nat → Int32) (A : Nat → Int32 → Int32) : Option (Int32) := (if (F 2) < 0 then some ((0 : Int32)) else (if (f_isTask (F 2)) = 0 then some ((1 : Int32)) else (if ((F 2) < (32 : Int32)) then (if ((A 10) (F 2)) = (1 : Int32) then (if ((F 2) < (32 : Int32)) then (if (f_isUser F ((A 11) (F 2))) = 0 then some ((1 : Int32)) else (if (¬ ((A 11) (F 2)) < 0) ∧ (((A 11) (F 2)) < (8 : Int32)) then (if ((A 7) ((A 11) (F 2))) = (F 2) then (if ((en_isActive A ((A 11) (F 2))).isSome = true) then some ((nar .boolean (if (R_isActive A ((A 11) (F 2))) = 0 then (1 : Int32) else (0 : Int32)))) else none) else some ((1 : Int32))) else none)) else none) else some ((1 : Int32))) else none)))
theorem een_reservationIsStale (F : Nat → Int32) (A : Nat → Int32 → Int32) : en_reservationIsStale F A  = (if (F 2) < 0 then some ((0 : Int32)) else (if (f_isTask (F 2)) = 0 then some ((1 : Int32)) else (if ((F 2) < (32 : Int32)) then (if ((A 10) (F 2)) = (1 : Int32) then (if ((F 2) < (32 : Int32)) then (if (f_isUser F ((A 11) (F 2))) = 0 then some ((1 : Int32)) else (if (¬ ((A 11) (F 2)) < 0) ∧ (((A 11) (F 2)) < (8 : Int32)) then (if ((A 7) ((A 11) (F 2))) = (F 2) then (if ((en_isActive A ((A 11) (F 2))).isSome = true) then some ((nar .boolean (if (R_isActive A ((A 11) (F 2))) = 0 then (1 : Int32) else (0 : Int32)))) else none) else some ((1 : Int32))) else none)) else none) else some ((1 : Int32))) else none))) := Eq.trans rfl rfl
def R_reservationIsStale (F : Nat → Int32) (A : Nat → Int32 → Int32) : Int32 := (en_reservationIsStale F A ).getD (0)
theorem eR_reservationIsStale (F : Nat → Int32) (A : Nat → Int32 → Int32) : R_reservationIsStale F A  = (en_reservationIsStale F A ).getD (0) := Eq.trans rfl rfl
set_option maxRecDepth 65536 in
set_option maxHeartbeats 4000000 in
theorem run_reservationIsStale {l : Launch} {Z : State} {a0 : Array Value} (H : OK Z a0) (F : Nat → Int32) (G : Nat → Int64) (A : Nat → Int32 → Int32) (B : Nat → Int32 → Int64) (e1 : (en_reservationIsStale F A ).isSome = true) :
    Wk l Z (MoC Z cdC) md_reservationIsStale 0 [.val (.ref 0), .unset] [] (15, F, G, A, B) 0 0 (fun v w' => v = some (.int (R_reservationIsStale F A )) ∧ w' = (15, F, G, A, B)) := by
  obtain ⟨r, h⟩ := Option.isSome_iff_exists.mp e1
  have e : R_reservationIsStale F A  = r := (eR_reservationIsStale F A ).trans (getD_some h)
  rw [e]
  rw [een_reservationIsStale] at h
  exact wp_reservationIsStale H F G A B  (fun q1 q2 => (gd (ifn q2 (ifn q1 h))).1) (fun q1 q2 q4 => (gd (ifp q4 (gd (ifn q2 (ifn q1 h))).2)).1) (fun q1 q2 q4 q6 => (gd (ifn q6 (gd (ifp q4 (gd (ifn q2 (ifn q1 h))).2)).2)).1.1) (fun q1 q2 q4 q6 => (gd (ifn q6 (gd (ifp q4 (gd (ifn q2 (ifn q1 h))).2)).2)).1.2) (fun q1 q2 q4 q6 q9 => (gd (ifp q9 (gd (ifn q6 (gd (ifp q4 (gd (ifn q2 (ifn q1 h))).2)).2)).2)).1) (fun q1 q2 q4 q6 q9 => (rt_reservationIsStale _ _ _ _ _ r (Option.some.inj (gd (ifp q9 (gd (ifn q6 (gd (ifp q4 (gd (ifn q2 (ifn q1 h))).2)).2)).2)).2))) (fun q1 q2 q4 q6 q9 => (rt_reservationIsStale _ _ _ _ _ r (Option.some.inj (ifn q9 (gd (ifn q6 (gd (ifp q4 (gd (ifn q2 (ifn q1 h))).2)).2)).2)))) (fun q1 q2 q4 q6 => (rt_reservationIsStale _ _ _ _ _ r (Option.some.inj (ifp q6 (gd (ifp q4 (gd (ifn q2 (ifn q1 h))).2)).2)))) (fun q1 q2 q4 => (rt_reservationIsStale _ _ _ _ _ r (Option.some.inj (ifn q4 (gd (ifn q2 (ifn q1 h))).2)))) (fun q1 q2 => (rt_reservationIsStale _ _ _ _ _ r (Option.some.inj (ifp q2 (ifn q1 h))))) (fun q1 => (rt_reservationIsStale _ _ _ _ _ r (Option.some.inj (ifp q1 h))))
set_option maxRecDepth 65536 in
set_option maxHeartbeats 4000000 in
theorem wp_compareLong {l : Launch} {Z : State} {a0 : Array Value} (H : OK Z a0) (F : Nat → Int32) (G : Nat → Int64) (A : Nat → Int32 → Int32) (B : Nat → Int32 → Int64) (p1 : Int64) (p2 : Int64) {Q : Option Value → WO → Prop} (h3 : ¬ (XT.cmpL p1 p2) < 0 → ¬ 0 < (XT.cmpL p1 p2) → Q (some (.int (0 : Int32))) (15, F, G, A, B)) (h4 : ¬ (XT.cmpL p1 p2) < 0 → 0 < (XT.cmpL p1 p2) → Q (some (.int (1 : Int32))) (15, F, G, A, B)) (h5 : (XT.cmpL p1 p2) < 0 → Q (some (.int (-1 : Int32))) (15, F, G, A, B)) :
    Wk l Z (MoC Z cdC) md_compareLong 0 [.val (.ref 0), .val (.long p1), .second, .val (.long p2), .second] [] (15, F, G, A, B) 0 0 Q := by
  refine Wk.lloadN o_compareLong_0 rfl ?_
  refine Wk.lloadN o_compareLong_1 rfl ?_
  refine Wk.lcmp o_compareLong_2 ?_
  refine Wk.if_ge o_compareLong_3 (fun q1 => ?_) (fun q1 => ?_)
  · refine Wk.lloadN o_compareLong_8 rfl ?_
    refine Wk.lloadN o_compareLong_9 rfl ?_
    refine Wk.lcmp o_compareLong_10 ?_
    refine Wk.if_le o_compareLong_11 (fun q2 => ?_) (fun q2 => ?_)
    · refine Wk.iconst o_compareLong_16 (z := (0 : Int32)) (by decide) ?_
      exact Wk.ireturn mrC rfl o_compareLong_17 rfl (by decide) (by decide) (h3 q1 q2)
    · refine Wk.iconst o_compareLong_14 (z := (1 : Int32)) (by decide) ?_
      exact Wk.ireturn mrC rfl o_compareLong_15 rfl (by decide) (by decide) (h4 q1 q2)
  · refine Wk.iconst o_compareLong_6 (z := (-1 : Int32)) (by decide) ?_
    exact Wk.ireturn mrC rfl o_compareLong_7 rfl (by decide) (by decide) (h5 q1)

def f_compareLong (p1 : Int64) (p2 : Int64) : Int32 := (if (XT.cmpL p1 p2) < 0 then (-1 : Int32) else (if 0 < (XT.cmpL p1 p2) then (1 : Int32) else (0 : Int32)))
theorem e_compareLong (p1 : Int64) (p2 : Int64) : f_compareLong p1 p2 = (if (XT.cmpL p1 p2) < 0 then (-1 : Int32) else (if 0 < (XT.cmpL p1 p2) then (1 : Int32) else (0 : Int32))) := Eq.trans rfl rfl
theorem run_compareLong {l : Launch} {Z : State} {a0 : Array Value} (H : OK Z a0) (F : Nat → Int32) (G : Nat → Int64) (A : Nat → Int32 → Int32) (B : Nat → Int32 → Int64) (p1 : Int64) (p2 : Int64) :
    Wk l Z (MoC Z cdC) md_compareLong 0 [.val (.ref 0), .val (.long p1), .second, .val (.long p2), .second] [] (15, F, G, A, B) 0 0 (fun v w' => v = some (.int (f_compareLong p1 p2)) ∧ w' = (15, F, G, A, B)) :=
  wp_compareLong H F G A B p1 p2 (fun q1 q2 => ⟨by simp only [e_compareLong, if_neg q1, if_neg q2], rfl⟩) (fun q1 q2 => ⟨by simp only [e_compareLong, if_neg q1, if_pos q2], rfl⟩) (fun q1 => ⟨by simp only [e_compareLong, if_pos q1], rfl⟩)
set_option maxRecDepth 65536 in
set_option maxHeartbeats 4000000 in
theorem wp_compareUsers {l : Launch} {Z : State} {a0 : Array Value} (H : OK Z a0) (F : Nat → Int32) (G : Nat → Int64) (A : Nat → Int32 → Int32) (B : Nat → Int32 → Int64) (p1 : Int32) (p2 : Int32) {Q : Option Value → WO → Prop} (s1 : ¬ p1 < 0) (s2 : p1 < (8 : Int32)) (s3 : ¬ p2 < 0) (s4 : p2 < (8 : Int32)) (s5 : ¬ (f_allocIndex p1 ((A 8) p1)) < 0) (s6 : (f_allocIndex p1 ((A 8) p1)) < (24 : Int32)) (s7 : ¬ ((A 8) p2) < 0) (s8 : ((A 8) p2) < (3 : Int32)) (s9 : ¬ (f_allocIndex p2 ((A 8) p2)) < 0) (s10 : (f_allocIndex p2 ((A 8) p2)) < (24 : Int32)) (s11 : ¬ ((A 8) p1) < 0) (s12 : ((A 8) p1) < (3 : Int32)) (h13 : Q (some (.int (f_compareLong (((((A 9) (f_allocIndex p1 ((A 8) p1))).toInt64) * (((A 0) ((A 8) p2)).toInt64)) * (((A 3) p2).toInt64)) (((((A 9) (f_allocIndex p2 ((A 8) p2))).toInt64) * (((A 0) ((A 8) p1)).toInt64)) * (((A 3) p1).toInt64))))) (15, F, G, A, B)) :
    Wk l Z (MoC Z cdC) md_compareUsers 0 [.val (.ref 0), .val (.int p1), .val (.int p2), .unset, .unset, .unset, .unset, .unset, .unset] [] (15, F, G, A, B) 0 0 Q := by
  refine Wk.aloadN o_compareUsers_0 rfl ?_
  refine Wk.getA (mA_domRes) (by decide) (i' := 9) rfl (wf_domRes H) o_compareUsers_1 ?_
  refine Wk.iloadN o_compareUsers_4 rfl ?_
  refine Wk.iaload (mA_domRes) (by decide) (i' := 9) rfl s1 s2 o_compareUsers_5 (y := ((A 8) p1)) rfl ?_
  refine Wk.istoreN o_compareUsers_6 (Or.inl rfl) (L' := [.val (.ref 0), .val (.int p1), .val (.int p2), .val (.int ((A 8) p1)), .unset, .unset, .unset, .unset, .unset]) rfl ?_
  refine Wk.aloadN o_compareUsers_7 rfl ?_
  refine Wk.getA (mA_domRes) (by decide) (i' := 9) rfl (wf_domRes H) o_compareUsers_8 ?_
  refine Wk.iloadN o_compareUsers_11 rfl ?_
  refine Wk.iaload (mA_domRes) (by decide) (i' := 9) rfl s3 s4 o_compareUsers_12 (y := ((A 8) p2)) rfl ?_
  refine Wk.istore o_compareUsers_13 (Or.inl rfl) (L' := [.val (.ref 0), .val (.int p1), .val (.int p2), .val (.int ((A 8) p1)), .val (.int ((A 8) p2)), .unset, .unset, .unset, .unset]) rfl ?_
  refine Wk.aloadN o_compareUsers_15 rfl ?_
  refine Wk.getA (mA_alloc) (by decide) (i' := 10) rfl (wf_alloc H) o_compareUsers_16 ?_
  refine Wk.aloadN o_compareUsers_19 rfl ?_
  refine Wk.iloadN o_compareUsers_20 rfl ?_
  refine Wk.iloadN o_compareUsers_21 rfl ?_
  refine Wk.callF [.int p1, .int ((A 8) p1)] [.ref 10] (H.w 52 rfl) (cv_allocIndex H) o_compareUsers_22 (run_allocIndex H F G A B p1 ((A 8) p1)) (wt := 1) (cu' := 0) (su' := 0) (by decide) rfl rfl rfl rfl rfl rfl rfl ?_
  refine Wk.iaload (mA_alloc) (by decide) (i' := 10) rfl s5 s6 o_compareUsers_25 (y := ((A 9) (f_allocIndex p1 ((A 8) p1)))) rfl ?_
  refine Wk.i2l o_compareUsers_26 ?_
  refine Wk.aloadN o_compareUsers_27 rfl ?_
  refine Wk.getA (mA_capRes) (by decide) (i' := 1) rfl (wf_capRes H) o_compareUsers_28 ?_
  refine Wk.iload o_compareUsers_31 rfl ?_
  refine Wk.iaload (mA_capRes) (by decide) (i' := 1) rfl s7 s8 o_compareUsers_33 (y := ((A 0) ((A 8) p2))) rfl ?_
  refine Wk.i2l o_compareUsers_34 ?_
  refine Wk.lmul o_compareUsers_35 ?_
  refine Wk.aloadN o_compareUsers_36 rfl ?_
  refine Wk.getA (mA_userWeight) (by decide) (i' := 4) rfl (wf_userWeight H) o_compareUsers_37 ?_
  refine Wk.iloadN o_compareUsers_40 rfl ?_
  refine Wk.iaload (mA_userWeight) (by decide) (i' := 4) rfl s3 s4 o_compareUsers_41 (y := ((A 3) p2)) rfl ?_
  refine Wk.i2l o_compareUsers_42 ?_
  refine Wk.lmul o_compareUsers_43 ?_
  refine Wk.lstore o_compareUsers_44 (Or.inl rfl) (Or.inl rfl) (L' := [.val (.ref 0), .val (.int p1), .val (.int p2), .val (.int ((A 8) p1)), .val (.int ((A 8) p2)), .val (.long (((((A 9) (f_allocIndex p1 ((A 8) p1))).toInt64) * (((A 0) ((A 8) p2)).toInt64)) * (((A 3) p2).toInt64))), .second, .unset, .unset]) rfl ?_
  refine Wk.aloadN o_compareUsers_46 rfl ?_
  refine Wk.getA (mA_alloc) (by decide) (i' := 10) rfl (wf_alloc H) o_compareUsers_47 ?_
  refine Wk.aloadN o_compareUsers_50 rfl ?_
  refine Wk.iloadN o_compareUsers_51 rfl ?_
  refine Wk.iload o_compareUsers_52 rfl ?_
  refine Wk.callF [.int p2, .int ((A 8) p2)] [.ref 10] (H.w 52 rfl) (cv_allocIndex H) o_compareUsers_54 (run_allocIndex H F G A B p2 ((A 8) p2)) (wt := 1) (cu' := 0) (su' := 0) (by decide) rfl rfl rfl rfl rfl rfl rfl ?_
  refine Wk.iaload (mA_alloc) (by decide) (i' := 10) rfl s9 s10 o_compareUsers_57 (y := ((A 9) (f_allocIndex p2 ((A 8) p2)))) rfl ?_
  refine Wk.i2l o_compareUsers_58 ?_
  refine Wk.aloadN o_compareUsers_59 rfl ?_
  refine Wk.getA (mA_capRes) (by decide) (i' := 1) rfl (wf_capRes H) o_compareUsers_60 ?_
  refine Wk.iloadN o_compareUsers_63 rfl ?_
  refine Wk.iaload (mA_capRes) (by decide) (i' := 1) rfl s11 s12 o_compareUsers_64 (y := ((A 0) ((A 8) p1))) rfl ?_
  refine Wk.i2l o_compareUsers_65 ?_
  refine Wk.lmul o_compareUsers_66 ?_
  refine Wk.aloadN o_compareUsers_67 rfl ?_
  refine Wk.getA (mA_userWeight) (by decide) (i' := 4) rfl (wf_userWeight H) o_compareUsers_68 ?_
  refine Wk.iloadN o_compareUsers_71 rfl ?_
  refine Wk.iaload (mA_userWeight) (by decide) (i' := 4) rfl s1 s2 o_compareUsers_72 (y := ((A 3) p1)) rfl ?_
  refine Wk.i2l o_compareUsers_73 ?_
  refine Wk.lmul o_compareUsers_74 ?_
  refine Wk.lstore o_compareUsers_75 (Or.inl rfl) (Or.inl rfl) (L' := [.val (.ref 0), .val (.int p1), .val (.int p2), .val (.int ((A 8) p1)), .val (.int ((A 8) p2)), .val (.long (((((A 9) (f_allocIndex p1 ((A 8) p1))).toInt64) * (((A 0) ((A 8) p2)).toInt64)) * (((A 3) p2).toInt64))), .second, .val (.long (((((A 9) (f_allocIndex p2 ((A 8) p2))).toInt64) * (((A 0) ((A 8) p1)).toInt64)) * (((A 3) p1).toInt64))), .second]) rfl ?_
  refine Wk.aloadN o_compareUsers_77 rfl ?_
  refine Wk.lload o_compareUsers_78 rfl ?_
  refine Wk.lload o_compareUsers_80 rfl ?_
  refine Wk.callF [.long (((((A 9) (f_allocIndex p1 ((A 8) p1))).toInt64) * (((A 0) ((A 8) p2)).toInt64)) * (((A 3) p2).toInt64)), .long (((((A 9) (f_allocIndex p2 ((A 8) p2))).toInt64) * (((A 0) ((A 8) p1)).toInt64)) * (((A 3) p1).toInt64))] [] (H.w 132 rfl) (cv_compareLong H) o_compareUsers_82 (run_compareLong H F G A B (((((A 9) (f_allocIndex p1 ((A 8) p1))).toInt64) * (((A 0) ((A 8) p2)).toInt64)) * (((A 3) p2).toInt64)) (((((A 9) (f_allocIndex p2 ((A 8) p2))).toInt64) * (((A 0) ((A 8) p1)).toInt64)) * (((A 3) p1).toInt64))) (wt := 0) (cu' := 0) (su' := 0) (by decide) rfl rfl rfl (al_compareLong _ _) rfl rfl rfl ?_
  exact Wk.ireturn mrC rfl o_compareUsers_85 rfl (by decide) (by decide) h13

theorem rt_compareUsers (F : Nat → Int32) (G : Nat → Int64) (A : Nat → Int32 → Int32) (B : Nat → Int32 → Int64) (v0 : Int32) (r : Int32) (e : v0 = r) : some (Value.int v0) = some (.int r) ∧ (15, F, G, A, B) = (15, F, G, A, B) := by subst e; exact ⟨rfl, rfl⟩
def en_compareUsers (A : Nat → Int32 → Int32) (p1 : Int32) (p2 : Int32) : Option (Int32) := (if (¬ p1 < 0) ∧ (p1 < (8 : Int32)) ∧ (¬ p2 < 0) ∧ (p2 < (8 : Int32)) ∧ (¬ (f_allocIndex p1 ((A 8) p1)) < 0) ∧ ((f_allocIndex p1 ((A 8) p1)) < (24 : Int32)) ∧ (¬ ((A 8) p2) < 0) ∧ (((A 8) p2) < (3 : Int32)) ∧ (¬ (f_allocIndex p2 ((A 8) p2)) < 0) ∧ ((f_allocIndex p2 ((A 8) p2)) < (24 : Int32)) ∧ (¬ ((A 8) p1) < 0) ∧ (((A 8) p1) < (3 : Int32)) then some ((f_compareLong (((((A 9) (f_allocIndex p1 ((A 8) p1))).toInt64) * (((A 0) ((A 8) p2)).toInt64)) * (((A 3) p2).toInt64)) (((((A 9) (f_allocIndex p2 ((A 8) p2))).toInt64) * (((A 0) ((A 8) p1)).toInt64)) * (((A 3) p1).toInt64)))) else none)
theorem een_compareUsers (A : Nat → Int32 → Int32) (p1 : Int32) (p2 : Int32) : en_compareUsers A p1 p2 = (if (¬ p1 < 0) ∧ (p1 < (8 : Int32)) ∧ (¬ p2 < 0) ∧ (p2 < (8 : Int32)) ∧ (¬ (f_allocIndex p1 ((A 8) p1)) < 0) ∧ ((f_allocIndex p1 ((A 8) p1)) < (24 : Int32)) ∧ (¬ ((A 8) p2) < 0) ∧ (((A 8) p2) < (3 : Int32)) ∧ (¬ (f_allocIndex p2 ((A 8) p2)) < 0) ∧ ((f_allocIndex p2 ((A 8) p2)) < (24 : Int32)) ∧ (¬ ((A 8) p1) < 0) ∧ (((A 8) p1) < (3 : Int32)) then some ((f_compareLong (((((A 9) (f_allocIndex p1 ((A 8) p1))).toInt64) * (((A 0) ((A 8) p2)).toInt64)) * (((A 3) p2).toInt64)) (((((A 9) (f_allocIndex p2 ((A 8) p2))).toInt64) * (((A 0) ((A 8) p1)).toInt64)) * (((A 3) p1).toInt64)))) else none) := Eq.trans rfl rfl
def R_compareUsers (A : Nat → Int32 → Int32) (p1 : Int32) (p2 : Int32) : Int32 := (en_compareUsers A p1 p2).getD (0)
theorem eR_compareUsers (A : Nat → Int32 → Int32) (p1 : Int32) (p2 : Int32) : R_compareUsers A p1 p2 = (en_compareUsers A p1 p2).getD (0) := Eq.trans rfl rfl
set_option maxRecDepth 65536 in
set_option maxHeartbeats 4000000 in
theorem run_compareUsers {l : Launch} {Z : State} {a0 : Array Value} (H : OK Z a0) (F : Nat → Int32) (G : Nat → Int64) (A : Nat → Int32 → Int32) (B : Nat → Int32 → Int64) (p1 : Int32) (p2 : Int32) (e1 : (en_compareUsers A p1 p2).isSome = true) :
    Wk l Z (MoC Z cdC) md_compareUsers 0 [.val (.ref 0), .val (.int p1), .val (.int p2), .unset, .unset, .unset, .unset, .unset, .unset] [] (15, F, G, A, B) 0 0 (fun v w' => v = some (.int (R_compareUsers A p1 p2)) ∧ w' = (15, F, G, A, B)) := by
  obtain ⟨r, h⟩ := Option.isSome_iff_exists.mp e1
  have e : R_compareUsers A p1 p2 = r := (eR_compareUsers A p1 p2).trans (getD_some h)
  rw [e]
  rw [een_compareUsers] at h
  exact wp_compareUsers H F G A B p1 p2 ((gd h).1.1) ((gd h).1.2.1) ((gd h).1.2.2.1) ((gd h).1.2.2.2.1) ((gd h).1.2.2.2.2.1) ((gd h).1.2.2.2.2.2.1) ((gd h).1.2.2.2.2.2.2.1) ((gd h).1.2.2.2.2.2.2.2.1) ((gd h).1.2.2.2.2.2.2.2.2.1) ((gd h).1.2.2.2.2.2.2.2.2.2.1) ((gd h).1.2.2.2.2.2.2.2.2.2.2.1) ((gd h).1.2.2.2.2.2.2.2.2.2.2.2) ((rt_compareUsers _ _ _ _ _ r (Option.some.inj (gd h).2)))
set_option maxRecDepth 65536 in
set_option maxHeartbeats 4000000 in
theorem wp_leader {l : Launch} {Z : State} {a0 : Array Value} (H : OK Z a0) (F : Nat → Int32) (G : Nat → Int64) (A : Nat → Int32 → Int32) (B : Nat → Int32 → Int64) {Q : Option Value → WO → Prop} (h1 : Wk l Z (MoC Z cdC) md_leader 4 [.val (.ref 0), .val (.int (-1 : Int32)), .val (.int (0 : Int32))] [] (15, F, G, A, B) 0 0 Q) :
    Wk l Z (MoC Z cdC) md_leader 0 [.val (.ref 0), .unset, .unset] [] (15, F, G, A, B) 0 0 Q := by
  refine Wk.iconst o_leader_0 (z := (-1 : Int32)) (by decide) ?_
  refine Wk.istoreN o_leader_1 (Or.inl rfl) (L' := [.val (.ref 0), .val (.int (-1 : Int32)), .unset]) rfl ?_
  refine Wk.iconst o_leader_2 (z := (0 : Int32)) (by decide) ?_
  refine Wk.istoreN o_leader_3 (Or.inl rfl) (L' := [.val (.ref 0), .val (.int (-1 : Int32)), .val (.int (0 : Int32))]) rfl ?_
  exact h1

set_option maxRecDepth 65536 in
set_option maxHeartbeats 4000000 in
theorem wp_leader_4 {l : Launch} {Z : State} {a0 : Array Value} (H : OK Z a0) (F : Nat → Int32) (G : Nat → Int64) (A : Nat → Int32 → Int32) (B : Nat → Int32 → Int64) (v1 : Int32) (v2 : Int32) {Q : Option Value → WO → Prop} (h2 : ¬ v2 < (F 0) → Q (some (.int v1)) (15, F, G, A, B)) (s3 : v2 < (F 0) → (en_isActive A v2).isSome = true) (s6 : v2 < (F 0) → ¬ (R_isActive A v2) = 0 → ¬ v1 < 0 → (en_compareUsers A v2 v1).isSome = true) (h11 : v2 < (F 0) → Wk l Z (MoC Z cdC) md_leader 4 [.val (.ref 0), .val (.int (if (R_isActive A v2) = 0 then v1 else (if v1 < 0 then v2 else (if (R_compareUsers A v2 v1) < 0 then v2 else v1)))), .val (.int (v2 + (1 : Int32)))] [] (15, F, G, A, B) 0 0 Q) :
    Wk l Z (MoC Z cdC) md_leader 4 [.val (.ref 0), .val (.int v1), .val (.int v2)] [] (15, F, G, A, B) 0 0 Q := by
  refine Wk.iloadN o_leader_4 rfl ?_
  refine Wk.aloadN o_leader_5 rfl ?_
  refine Wk.getI (mI_userCount) (wf_userCount H) o_leader_6 (x := (F 0)) rfl ?_
  refine Wk.icmp_ge o_leader_9 (fun q1 => ?_) (fun q1 => ?_)
  · refine Wk.iloadN o_leader_44 rfl ?_
    exact Wk.ireturn mrC rfl o_leader_45 rfl (by decide) (by decide) (h2 q1)
  · refine Wk.aloadN o_leader_12 rfl ?_
    refine Wk.iloadN o_leader_13 rfl ?_
    refine Wk.callF [.int v2] [] (H.w 120 rfl) (cv_isActive H) o_leader_14 (run_isActive H F G A B v2 (s3 q1)) (wt := 0) (cu' := 0) (su' := 0) (by decide) rfl rfl rfl rfl rfl rfl rfl ?_
    have J10 : Wk l Z (MoC Z cdC) md_leader 38 [.val (.ref 0), .val (.int (if (R_isActive A v2) = 0 then v1 else (if v1 < 0 then v2 else (if (R_compareUsers A v2 v1) < 0 then v2 else v1)))), .val (.int v2)] [] (15, F, G, A, B) 0 0 Q := by
      refine Wk.iinc o_leader_38 rfl (z := (v2 + (1 : Int32))) rfl (L' := [.val (.ref 0), .val (.int (if (R_isActive A v2) = 0 then v1 else (if v1 < 0 then v2 else (if (R_compareUsers A v2 v1) < 0 then v2 else v1)))), .val (.int (v2 + (1 : Int32)))]) rfl ?_
      refine Wk.goto o_leader_41 ?_
      exact (h11 q1)
    refine Wk.if_ne o_leader_17 (fun q4 => ?_) (fun q4 => ?_)
    · refine Wk.iloadN o_leader_23 rfl ?_
      refine Wk.if_lt o_leader_24 (fun q5 => ?_) (fun q5 => ?_)
      · refine Wk.iloadN o_leader_36 rfl ?_
        refine Wk.istoreN o_leader_37 (Or.inr ⟨_, rfl, rfl⟩) (L' := [.val (.ref 0), .val (.int v2), .val (.int v2)]) rfl ?_
        first | (rw [show ((if (R_isActive A v2) = 0 then v1 else (if v1 < 0 then v2 else (if (R_compareUsers A v2 v1) < 0 then v2 else v1))) : Int32) = v2 from Eq.trans (if_neg q4) <| if_pos q5] at J10; exact J10) | exact J10 | (simp only [if_neg q4, if_pos q5] at J10 ⊢; exact J10)
      · refine Wk.aloadN o_leader_27 rfl ?_
        refine Wk.iloadN o_leader_28 rfl ?_
        refine Wk.iloadN o_leader_29 rfl ?_
        refine Wk.callF [.int v2, .int v1] [] (H.w 128 rfl) (cv_compareUsers H) o_leader_30 (run_compareUsers H F G A B v2 v1 (s6 q1 q4 q5)) (wt := 0) (cu' := 0) (su' := 0) (by decide) rfl rfl rfl rfl rfl rfl rfl ?_
        refine Wk.if_ge o_leader_33 (fun q7 => ?_) (fun q7 => ?_)
        · first | (rw [show ((if (R_isActive A v2) = 0 then v1 else (if v1 < 0 then v2 else (if (R_compareUsers A v2 v1) < 0 then v2 else v1))) : Int32) = v1 from Eq.trans (if_neg q4) <| Eq.trans (if_neg q5) <| if_neg q7] at J10; exact J10) | exact J10 | (simp only [if_neg q4, if_neg q5, if_neg q7] at J10 ⊢; exact J10)
        · refine Wk.iloadN o_leader_36 rfl ?_
          refine Wk.istoreN o_leader_37 (Or.inr ⟨_, rfl, rfl⟩) (L' := [.val (.ref 0), .val (.int v2), .val (.int v2)]) rfl ?_
          first | (rw [show ((if (R_isActive A v2) = 0 then v1 else (if v1 < 0 then v2 else (if (R_compareUsers A v2 v1) < 0 then v2 else v1))) : Int32) = v2 from Eq.trans (if_neg q4) <| Eq.trans (if_neg q5) <| if_pos q7] at J10; exact J10) | exact J10 | (simp only [if_neg q4, if_neg q5, if_pos q7] at J10 ⊢; exact J10)
    · refine Wk.goto o_leader_20 ?_
      first | (rw [show ((if (R_isActive A v2) = 0 then v1 else (if v1 < 0 then v2 else (if (R_compareUsers A v2 v1) < 0 then v2 else v1))) : Int32) = v1 from if_pos q4] at J10; exact J10) | exact J10 | (simp only [if_pos q4] at J10 ⊢; exact J10)

theorem rt_leader (F : Nat → Int32) (G : Nat → Int64) (A : Nat → Int32 → Int32) (B : Nat → Int32 → Int64) (v0 : Int32) (r : Int32) (e : v0 = r) : some (Value.int v0) = some (.int r) ∧ (15, F, G, A, B) = (15, F, G, A, B) := by subst e; exact ⟨rfl, rfl⟩
def lp_leader : Nat → Nat → Int32 → Int32 → (Nat → Int32) → (Nat → Int32 → Int32) → Option (Int32)
  | 0, _, _, _, _, _ => none
  | n + 1, tag, v1, v2, F, A => if tag = 4 then (if v2 < (F 0) then (if ((en_isActive A v2).isSome = true) ∧ (¬ (R_isActive A v2) = 0 → ¬ v1 < 0 → (en_compareUsers A v2 v1).isSome = true) then lp_leader n 4 (if (R_isActive A v2) = 0 then v1 else (if v1 < 0 then v2 else (if (R_compareUsers A v2 v1) < 0 then v2 else v1))) (v2 + (1 : Int32)) F A else none) else some (v1)) else none
theorem lp_leader_z (tag : Nat) (v1 : Int32) (v2 : Int32) (F : Nat → Int32) (A : Nat → Int32 → Int32) : lp_leader 0 tag v1 v2 F A = none := Eq.trans rfl rfl
theorem lp_leader_4 (n : Nat) (v1 : Int32) (v2 : Int32) (F : Nat → Int32) (A : Nat → Int32 → Int32) : lp_leader (n + 1) 4 v1 v2 F A = (if v2 < (F 0) then (if ((en_isActive A v2).isSome = true) ∧ (¬ (R_isActive A v2) = 0 → ¬ v1 < 0 → (en_compareUsers A v2 v1).isSome = true) then lp_leader n 4 (if (R_isActive A v2) = 0 then v1 else (if v1 < 0 then v2 else (if (R_compareUsers A v2 v1) < 0 then v2 else v1))) (v2 + (1 : Int32)) F A else none) else some (v1)) := by
  rw [lp_leader, if_pos rfl]
set_option maxRecDepth 65536 in
set_option maxHeartbeats 4000000 in
theorem lpw_leader {l : Launch} {Z : State} {a0 : Array Value} (H : OK Z a0) (F : Nat → Int32) (G : Nat → Int64) (A : Nat → Int32 → Int32) (B : Nat → Int32 → Int64) : ∀ (n : Nat) (v1 : Int32) (v2 : Int32) (r : Int32), (lp_leader n 4 v1 v2 F A = some r → Wk l Z (MoC Z cdC) md_leader 4 [.val (.ref 0), .val (.int v1), .val (.int v2)] [] (15, F, G, A, B) 0 0 (fun v w' => v = some (.int r) ∧ w' = (15, F, G, A, B))) := by
  intro n
  induction n with
  | zero =>
    intro v1 v2  r
    exact (fun h => by rw [lp_leader_z] at h; cases h)
  | succ n ih =>
    intro v1 v2  r
    refine fun h => ?_
    · rw [lp_leader_4] at h
      exact wp_leader_4 H F G A B v1 v2 (fun q1 => (rt_leader _ _ _ _ _ r (Option.some.inj (ifn q1 h)))) (fun q1 => (gd (ifp q1 h)).1.1) (fun q1 q4 q5 => ((gd (ifp q1 h)).1.2) q4 q5) (fun q1 => (ih _ _ _) (gd (ifp q1 h)).2)
def en_leader (F : Nat → Int32) (A : Nat → Int32 → Int32) : Option (Int32) := lp_leader 1000 4 (-1 : Int32) (0 : Int32) F A
theorem een_leader (F : Nat → Int32) (A : Nat → Int32 → Int32) : en_leader F A  = lp_leader 1000 4 (-1 : Int32) (0 : Int32) F A := Eq.trans rfl rfl
def R_leader (F : Nat → Int32) (A : Nat → Int32 → Int32) : Int32 := (en_leader F A ).getD (0)
theorem eR_leader (F : Nat → Int32) (A : Nat → Int32 → Int32) : R_leader F A  = (en_leader F A ).getD (0) := Eq.trans rfl rfl
set_option maxRecDepth 65536 in
set_option maxHeartbeats 4000000 in
theorem run_leader {l : Launch} {Z : State} {a0 : Array Value} (H : OK Z a0) (F : Nat → Int32) (G : Nat → Int64) (A : Nat → Int32 → Int32) (B : Nat → Int32 → Int64) (e1 : (en_leader F A ).isSome = true) :
    Wk l Z (MoC Z cdC) md_leader 0 [.val (.ref 0), .unset, .unset] [] (15, F, G, A, B) 0 0 (fun v w' => v = some (.int (R_leader F A )) ∧ w' = (15, F, G, A, B)) := by
  obtain ⟨r, h⟩ := Option.isSome_iff_exists.mp e1
  have e : R_leader F A  = r := (eR_leader F A ).trans (getD_some h)
  rw [e]
  rw [een_leader] at h
  exact wp_leader H F G A B  ((lpw_leader H F G A B _ _ _ _) h)
set_option maxRecDepth 65536 in
set_option maxHeartbeats 4000000 in
theorem wp_chooseReservation {l : Launch} {Z : State} {a0 : Array Value} (H : OK Z a0) (F : Nat → Int32) (G : Nat → Int64) (A : Nat → Int32 → Int32) (B : Nat → Int32 → Int64) {Q : Option Value → WO → Prop} (s1 : (en_leader F A ).isSome = true) (s3 : ¬ (R_leader F A ) < 0 → (R_leader F A ) < (8 : Int32)) (s5 : ¬ (R_leader F A ) < 0 → ¬ (f_isTask ((A 7) (R_leader F A ))) = 0 → ¬ ((A 7) (R_leader F A )) < 0) (s6 : ¬ (R_leader F A ) < 0 → ¬ (f_isTask ((A 7) (R_leader F A ))) = 0 → ((A 7) (R_leader F A )) < (32 : Int32)) (h8 : ¬ (R_leader F A ) < 0 → ¬ (f_isTask ((A 7) (R_leader F A ))) = 0 → ¬ ((A 12) ((A 7) (R_leader F A ))) < (2 : Int32) → False) (h9 : ¬ (R_leader F A ) < 0 → ¬ (f_isTask ((A 7) (R_leader F A ))) = 0 → ((A 12) ((A 7) (R_leader F A ))) < (2 : Int32) → Q (some (.int (-1 : Int32))) (15, F, G, A, B)) (h10 : ¬ (R_leader F A ) < 0 → (f_isTask ((A 7) (R_leader F A ))) = 0 → Q (some (.int (-1 : Int32))) (15, F, G, A, B)) (h11 : (R_leader F A ) < 0 → Q (some (.int (-1 : Int32))) (15, F, G, A, B)) :
    Wk l Z (MoC Z cdC) md_chooseReservation 0 [.val (.ref 0), .unset, .unset] [] (15, F, G, A, B) 0 0 Q := by
  refine Wk.aloadN o_chooseReservation_0 rfl ?_
  refine Wk.callF [] [] (H.w 116 rfl) (cv_leader H) o_chooseReservation_1 (run_leader H F G A B s1) (wt := 0) (cu' := 0) (su' := 0) (by decide) rfl rfl rfl rfl rfl rfl rfl ?_
  refine Wk.istoreN o_chooseReservation_4 (Or.inl rfl) (L' := [.val (.ref 0), .val (.int (R_leader F A )), .unset]) rfl ?_
  refine Wk.iloadN o_chooseReservation_5 rfl ?_
  refine Wk.if_ge o_chooseReservation_6 (fun q2 => ?_) (fun q2 => ?_)
  · refine Wk.aloadN o_chooseReservation_11 rfl ?_
    refine Wk.getA (mA_headSlot) (by decide) (i' := 8) rfl (wf_headSlot H) o_chooseReservation_12 ?_
    refine Wk.iloadN o_chooseReservation_15 rfl ?_
    refine Wk.iaload (mA_headSlot) (by decide) (i' := 8) rfl q2 (s3 q2) o_chooseReservation_16 (y := ((A 7) (R_leader F A ))) rfl ?_
    refine Wk.istoreN o_chooseReservation_17 (Or.inl rfl) (L' := [.val (.ref 0), .val (.int (R_leader F A )), .val (.int ((A 7) (R_leader F A )))]) rfl ?_
    refine Wk.aloadN o_chooseReservation_18 rfl ?_
    refine Wk.iloadN o_chooseReservation_19 rfl ?_
    refine Wk.callF [.int ((A 7) (R_leader F A ))] [] (H.w 124 rfl) (cv_isTask H) o_chooseReservation_20 (run_isTask H F G A B ((A 7) (R_leader F A ))) (wt := 0) (cu' := 0) (su' := 0) (by decide) rfl rfl rfl rfl rfl rfl rfl ?_
    refine Wk.if_ne o_chooseReservation_23 (fun q4 => ?_) (fun q4 => ?_)
    · refine Wk.aloadN o_chooseReservation_28 rfl ?_
      refine Wk.getA (mA_slotGang) (by decide) (i' := 13) rfl (wf_slotGang H) o_chooseReservation_29 ?_
      refine Wk.iloadN o_chooseReservation_32 rfl ?_
      refine Wk.iaload (mA_slotGang) (by decide) (i' := 13) rfl (s5 q2 q4) (s6 q2 q4) o_chooseReservation_33 (y := ((A 12) ((A 7) (R_leader F A )))) rfl ?_
      refine Wk.iconst o_chooseReservation_34 (z := (2 : Int32)) (by decide) ?_
      refine Wk.icmp_ge o_chooseReservation_35 (fun q7 => ?_) (fun q7 => ?_)
      · refine Wk.aloadN o_chooseReservation_40 rfl ?_
        refine Wk.iloadN o_chooseReservation_41 rfl ?_
        exact False.elim (h8 q2 q4 q7)
      · refine Wk.iconst o_chooseReservation_38 (z := (-1 : Int32)) (by decide) ?_
        exact Wk.ireturn mrC rfl o_chooseReservation_39 rfl (by decide) (by decide) (h9 q2 q4 q7)
    · refine Wk.iconst o_chooseReservation_26 (z := (-1 : Int32)) (by decide) ?_
      exact Wk.ireturn mrC rfl o_chooseReservation_27 rfl (by decide) (by decide) (h10 q2 q4)
  · refine Wk.iconst o_chooseReservation_9 (z := (-1 : Int32)) (by decide) ?_
    exact Wk.ireturn mrC rfl o_chooseReservation_10 rfl (by decide) (by decide) (h11 q2)

theorem rt_chooseReservation (F : Nat → Int32) (G : Nat → Int64) (A : Nat → Int32 → Int32) (B : Nat → Int32 → Int64) (v0 : Int32) (r : Int32) (e : v0 = r) : some (Value.int v0) = some (.int r) ∧ (15, F, G, A, B) = (15, F, G, A, B) := by subst e; exact ⟨rfl, rfl⟩
def en_chooseReservation (F : Nat → Int32) (A : Nat → Int32 → Int32) : Option (Int32) := (if ((en_leader F A ).isSome = true) then (if (R_leader F A ) < 0 then some ((-1 : Int32)) else (if ((R_leader F A ) < (8 : Int32)) then (if (f_isTask ((A 7) (R_leader F A ))) = 0 then some ((-1 : Int32)) else (if (¬ ((A 7) (R_leader F A )) < 0) ∧ (((A 7) (R_leader F A )) < (32 : Int32)) then (if ((A 12) ((A 7) (R_leader F A ))) < (2 : Int32) then some ((-1 : Int32)) else none) else none)) else none)) else none)
theorem een_chooseReservation (F : Nat → Int32) (A : Nat → Int32 → Int32) : en_chooseReservation F A  = (if ((en_leader F A ).isSome = true) then (if (R_leader F A ) < 0 then some ((-1 : Int32)) else (if ((R_leader F A ) < (8 : Int32)) then (if (f_isTask ((A 7) (R_leader F A ))) = 0 then some ((-1 : Int32)) else (if (¬ ((A 7) (R_leader F A )) < 0) ∧ (((A 7) (R_leader F A )) < (32 : Int32)) then (if ((A 12) ((A 7) (R_leader F A ))) < (2 : Int32) then some ((-1 : Int32)) else none) else none)) else none)) else none) := Eq.trans rfl rfl
def R_chooseReservation (F : Nat → Int32) (A : Nat → Int32 → Int32) : Int32 := (en_chooseReservation F A ).getD (0)
theorem eR_chooseReservation (F : Nat → Int32) (A : Nat → Int32 → Int32) : R_chooseReservation F A  = (en_chooseReservation F A ).getD (0) := Eq.trans rfl rfl
set_option maxRecDepth 65536 in
set_option maxHeartbeats 4000000 in
theorem run_chooseReservation {l : Launch} {Z : State} {a0 : Array Value} (H : OK Z a0) (F : Nat → Int32) (G : Nat → Int64) (A : Nat → Int32 → Int32) (B : Nat → Int32 → Int64) (e1 : (en_chooseReservation F A ).isSome = true) :
    Wk l Z (MoC Z cdC) md_chooseReservation 0 [.val (.ref 0), .unset, .unset] [] (15, F, G, A, B) 0 0 (fun v w' => v = some (.int (R_chooseReservation F A )) ∧ w' = (15, F, G, A, B)) := by
  obtain ⟨r, h⟩ := Option.isSome_iff_exists.mp e1
  have e : R_chooseReservation F A  = r := (eR_chooseReservation F A ).trans (getD_some h)
  rw [e]
  rw [een_chooseReservation] at h
  exact wp_chooseReservation H F G A B  ((gd h).1) (fun q2 => (gd (ifn q2 (gd h).2)).1) (fun q2 q4 => (gd (ifn q4 (gd (ifn q2 (gd h).2)).2)).1.1) (fun q2 q4 => (gd (ifn q4 (gd (ifn q2 (gd h).2)).2)).1.2) (fun q2 q4 q7 => (by have e := (ifn q7 (gd (ifn q4 (gd (ifn q2 (gd h).2)).2)).2); cases e)) (fun q2 q4 q7 => (rt_chooseReservation _ _ _ _ _ r (Option.some.inj (ifp q7 (gd (ifn q4 (gd (ifn q2 (gd h).2)).2)).2)))) (fun q2 q4 => (rt_chooseReservation _ _ _ _ _ r (Option.some.inj (ifp q4 (gd (ifn q2 (gd h).2)).2)))) (fun q2 => (rt_chooseReservation _ _ _ _ _ r (Option.some.inj (ifp q2 (gd h).2))))
set_option maxRecDepth 65536 in
set_option maxHeartbeats 4000000 in
theorem wp_runReservationRule {l : Launch} {Z : State} {a0 : Array Value} (H : OK Z a0) (F : Nat → Int32) (G : Nat → Int64) (A : Nat → Int32 → Int32) (B : Nat → Int32 → Int64) {Q : Option Value → WO → Prop} (s1 : (en_reservationIsStale F A ).isSome = true) (h5 : (R_reservationIsStale F A ) = 0 → ¬ (F 2) < 0 → Q none (15, F, G, A, B)) (s6 : (R_reservationIsStale F A ) = 0 → (F 2) < 0 → (en_chooseReservation F A ).isSome = true) (h7 : (R_reservationIsStale F A ) = 0 → (F 2) < 0 → Q none (15, (ups F 2 (R_chooseReservation F A )), G, A, B)) (h10 : ¬ (R_reservationIsStale F A ) = 0 → ¬ (-1 : Int32) < 0 → Q none (15, (ups F 2 (-1 : Int32)), G, A, B)) (s11 : ¬ (R_reservationIsStale F A ) = 0 → (-1 : Int32) < 0 → (en_chooseReservation (ups F 2 (-1 : Int32)) A ).isSome = true) (h12 : ¬ (R_reservationIsStale F A ) = 0 → (-1 : Int32) < 0 → Q none (15, (ups (ups F 2 (-1 : Int32)) 2 (R_chooseReservation (ups F 2 (-1 : Int32)) A )), G, A, B)) :
    Wk l Z (MoC Z cdC) md_runReservationRule 0 [.val (.ref 0)] [] (15, F, G, A, B) 0 0 Q := by
  refine Wk.aloadN o_runReservationRule_0 rfl ?_
  refine Wk.callF [] [] (H.w 108 rfl) (cv_reservationIsStale H) o_runReservationRule_1 (run_reservationIsStale H F G A B s1) (wt := 0) (cu' := 0) (su' := 0) (by decide) rfl rfl rfl rfl rfl rfl rfl ?_
  refine Wk.if_eq o_runReservationRule_4 (fun q2 => ?_) (fun q2 => ?_)
  · refine Wk.aloadN o_runReservationRule_12 rfl ?_
    refine Wk.getI (mI_reserved) (wf_reserved H) o_runReservationRule_13 (x := (F 2)) rfl ?_
    refine Wk.if_ge o_runReservationRule_16 (fun q3 => ?_) (fun q3 => ?_)
    · exact Wk.ret mrC rfl o_runReservationRule_27 rfl (by decide) (by decide) (h5 q2 q3)
    · refine Wk.aloadN o_runReservationRule_19 rfl ?_
      refine Wk.aloadN o_runReservationRule_20 rfl ?_
      refine Wk.callF [] [.ref 0] (H.w 112 rfl) (cv_chooseReservation H) o_runReservationRule_21 (run_chooseReservation H F G A B (s6 q2 q3)) (wt := 1) (cu' := 0) (su' := 0) (by decide) rfl rfl rfl rfl rfl rfl rfl ?_
      refine Wk.putI (coC H) (mI_reserved) (wf_reserved H) (Or.inl (wy_reserved H)) o_runReservationRule_24 ?_
      exact Wk.ret mrC rfl o_runReservationRule_27 rfl (by decide) (by decide) (h7 q2 q3)
  · refine Wk.aloadN o_runReservationRule_7 rfl ?_
    refine Wk.iconst o_runReservationRule_8 (z := (-1 : Int32)) (by decide) ?_
    refine Wk.putI (coC H) (mI_reserved) (wf_reserved H) (Or.inl (wy_reserved H)) o_runReservationRule_9 ?_
    refine Wk.aloadN o_runReservationRule_12 rfl ?_
    refine Wk.getI (mI_reserved) (wf_reserved H) o_runReservationRule_13 (x := (-1 : Int32)) rfl ?_
    refine Wk.if_ge o_runReservationRule_16 (fun q8 => ?_) (fun q8 => ?_)
    · exact Wk.ret mrC rfl o_runReservationRule_27 rfl (by decide) (by decide) (h10 q2 q8)
    · refine Wk.aloadN o_runReservationRule_19 rfl ?_
      refine Wk.aloadN o_runReservationRule_20 rfl ?_
      refine Wk.callF [] [.ref 0] (H.w 112 rfl) (cv_chooseReservation H) o_runReservationRule_21 (run_chooseReservation H (ups F 2 (-1 : Int32)) G A B (s11 q2 q8)) (wt := 1) (cu' := 0) (su' := 0) (by decide) rfl rfl rfl rfl rfl rfl rfl ?_
      refine Wk.putI (coC H) (mI_reserved) (wf_reserved H) (Or.inl (wy_reserved H)) o_runReservationRule_24 ?_
      exact Wk.ret mrC rfl o_runReservationRule_27 rfl (by decide) (by decide) (h12 q2 q8)

theorem rt_runReservationRule (G : Nat → Int64) (A : Nat → Int32 → Int32) (B : Nat → Int32 → Int64) (v0 : Int32) (xF : Nat → Int32) (r : Int32 × (Nat → Int32)) (e : (v0, xF) = r) : (none : Option Value) = none ∧ (15, xF, G, A, B) = (15, r.2, G, A, B) := by subst e; exact ⟨rfl, rfl⟩
def en_runReservationRule (F : Nat → Int32) (A : Nat → Int32 → Int32) : Option (Int32 × (Nat → Int32)) := (if ((en_reservationIsStale F A ).isSome = true) then (if (R_reservationIsStale F A ) = 0 then (if (F 2) < 0 then (if ((en_chooseReservation F A ).isSome = true) then some ((0 : Int32), (ups F 2 (R_chooseReservation F A ))) else none) else some ((0 : Int32), F)) else (if (-1 : Int32) < 0 then (if ((en_chooseReservation (ups F 2 (-1 : Int32)) A ).isSome = true) then some ((0 : Int32), (ups (ups F 2 (-1 : Int32)) 2 (R_chooseReservation (ups F 2 (-1 : Int32)) A ))) else none) else some ((0 : Int32), (ups F 2 (-1 : Int32))))) else none)
theorem een_runReservationRule (F : Nat → Int32) (A : Nat → Int32 → Int32) : en_runReservationRule F A  = (if ((en_reservationIsStale F A ).isSome = true) then (if (R_reservationIsStale F A ) = 0 then (if (F 2) < 0 then (if ((en_chooseReservation F A ).isSome = true) then some ((0 : Int32), (ups F 2 (R_chooseReservation F A ))) else none) else some ((0 : Int32), F)) else (if (-1 : Int32) < 0 then (if ((en_chooseReservation (ups F 2 (-1 : Int32)) A ).isSome = true) then some ((0 : Int32), (ups (ups F 2 (-1 : Int32)) 2 (R_chooseReservation (ups F 2 (-1 : Int32)) A ))) else none) else some ((0 : Int32), (ups F 2 (-1 : Int32))))) else none) := Eq.trans rfl rfl
def R_runReservationRule (F : Nat → Int32) (A : Nat → Int32 → Int32) : Int32 × (Nat → Int32) := (en_runReservationRule F A ).getD (0, (fun _ => 0))
theorem eR_runReservationRule (F : Nat → Int32) (A : Nat → Int32 → Int32) : R_runReservationRule F A  = (en_runReservationRule F A ).getD (0, (fun _ => 0)) := Eq.trans rfl rfl
set_option maxRecDepth 65536 in
set_option maxHeartbeats 4000000 in
theorem run_runReservationRule {l : Launch} {Z : State} {a0 : Array Value} (H : OK Z a0) (F : Nat → Int32) (G : Nat → Int64) (A : Nat → Int32 → Int32) (B : Nat → Int32 → Int64) (e1 : (en_runReservationRule F A ).isSome = true) :
    Wk l Z (MoC Z cdC) md_runReservationRule 0 [.val (.ref 0)] [] (15, F, G, A, B) 0 0 (fun v w' => v = none ∧ w' = (15, (R_runReservationRule F A ).2, G, A, B)) := by
  obtain ⟨r, h⟩ := Option.isSome_iff_exists.mp e1
  have e : R_runReservationRule F A  = r := (eR_runReservationRule F A ).trans (getD_some h)
  rw [e]
  rw [een_runReservationRule] at h
  exact wp_runReservationRule H F G A B  ((gd h).1) (fun q2 q3 => (rt_runReservationRule _ _ _ _ _ r (Option.some.inj (ifn q3 (ifp q2 (gd h).2))))) (fun q2 q3 => (gd (ifp q3 (ifp q2 (gd h).2))).1) (fun q2 q3 => (rt_runReservationRule _ _ _ _ _ r (Option.some.inj (gd (ifp q3 (ifp q2 (gd h).2))).2))) (fun q2 q8 => (rt_runReservationRule _ _ _ _ _ r (Option.some.inj (ifn q8 (ifn q2 (gd h).2))))) (fun q2 q8 => (gd (ifp q8 (ifn q2 (gd h).2))).1) (fun q2 q8 => (rt_runReservationRule _ _ _ _ _ r (Option.some.inj (gd (ifp q8 (ifn q2 (gd h).2))).2)))
set_option maxRecDepth 65536 in
set_option maxHeartbeats 4000000 in
theorem wp_submit {l : Launch} {Z : State} {a0 : Array Value} (H : OK Z a0) (F : Nat → Int32) (G : Nat → Int64) (A : Nat → Int32 → Int32) (B : Nat → Int32 → Int64) (p1 : Int32) (p2 : Int32) {Q : Option Value → WO → Prop} (s4 : ¬ (f_isUser F p1) = 0 → ¬ (f_isGangValue p2) = 0 → (f_stagedIsZero A) = 0 → (en_stagedNeverFits A p2).isSome = true) (s6 : ¬ (f_isUser F p1) = 0 → ¬ (f_isGangValue p2) = 0 → (f_stagedIsZero A) = 0 → (R_stagedNeverFits A p2) = 0 → (en_lowestFreeSlot F A ).isSome = true) (s8 : ¬ (f_isUser F p1) = 0 → ¬ (f_isGangValue p2) = 0 → (f_stagedIsZero A) = 0 → (R_stagedNeverFits A p2) = 0 → ¬ (R_lowestFreeSlot F A ) < 0 → (en_occupySlot F G A B (R_lowestFreeSlot F A ) p1 p2).isSome = true) (s9 : ¬ (f_isUser F p1) = 0 → ¬ (f_isGangValue p2) = 0 → (f_stagedIsZero A) = 0 → (R_stagedNeverFits A p2) = 0 → ¬ (R_lowestFreeSlot F A ) < 0 → (en_runReservationRule (R_occupySlot F G A B (R_lowestFreeSlot F A ) p1 p2).2.1 (R_occupySlot F G A B (R_lowestFreeSlot F A ) p1 p2).2.2.2.1 ).isSome = true) (h10 : ¬ (f_isUser F p1) = 0 → ¬ (f_isGangValue p2) = 0 → (f_stagedIsZero A) = 0 → (R_stagedNeverFits A p2) = 0 → ¬ (R_lowestFreeSlot F A ) < 0 → Q (some (.int (R_lowestFreeSlot F A ))) (15, (R_runReservationRule (R_occupySlot F G A B (R_lowestFreeSlot F A ) p1 p2).2.1 (R_occupySlot F G A B (R_lowestFreeSlot F A ) p1 p2).2.2.2.1 ).2, (R_occupySlot F G A B (R_lowestFreeSlot F A ) p1 p2).2.2.1, (R_occupySlot F G A B (R_lowestFreeSlot F A ) p1 p2).2.2.2.1, (R_occupySlot F G A B (R_lowestFreeSlot F A ) p1 p2).2.2.2.2)) (h11 : ¬ (f_isUser F p1) = 0 → ¬ (f_isGangValue p2) = 0 → (f_stagedIsZero A) = 0 → (R_stagedNeverFits A p2) = 0 → (R_lowestFreeSlot F A ) < 0 → Q (some (.int (-5 : Int32))) (15, F, G, A, B)) (h12 : ¬ (f_isUser F p1) = 0 → ¬ (f_isGangValue p2) = 0 → (f_stagedIsZero A) = 0 → ¬ (R_stagedNeverFits A p2) = 0 → Q (some (.int (-4 : Int32))) (15, F, G, A, B)) (h13 : ¬ (f_isUser F p1) = 0 → ¬ (f_isGangValue p2) = 0 → ¬ (f_stagedIsZero A) = 0 → Q (some (.int (-3 : Int32))) (15, F, G, A, B)) (h14 : ¬ (f_isUser F p1) = 0 → (f_isGangValue p2) = 0 → Q (some (.int (-2 : Int32))) (15, F, G, A, B)) (h15 : (f_isUser F p1) = 0 → Q (some (.int (-1 : Int32))) (15, F, G, A, B)) :
    Wk l Z (MoC Z cdC) md_submit 0 [.val (.ref 0), .val (.int p1), .val (.int p2), .unset] [] (15, F, G, A, B) 0 0 Q := by
  refine Wk.aloadN o_submit_0 rfl ?_
  refine Wk.iloadN o_submit_1 rfl ?_
  refine Wk.callF [.int p1] [] (H.w 80 rfl) (cv_isUser H) o_submit_2 (run_isUser H F G A B p1) (wt := 0) (cu' := 0) (su' := 0) (by decide) rfl rfl rfl rfl rfl rfl rfl ?_
  refine Wk.if_ne o_submit_5 (fun q1 => ?_) (fun q1 => ?_)
  · refine Wk.aloadN o_submit_10 rfl ?_
    refine Wk.iloadN o_submit_11 rfl ?_
    refine Wk.callF [.int p2] [] (H.w 84 rfl) (cv_isGangValue H) o_submit_12 (run_isGangValue H F G A B p2) (wt := 0) (cu' := 0) (su' := 0) (by decide) rfl rfl rfl rfl rfl rfl rfl ?_
    refine Wk.if_ne o_submit_15 (fun q2 => ?_) (fun q2 => ?_)
    · refine Wk.aloadN o_submit_21 rfl ?_
      refine Wk.callF [] [] (H.w 88 rfl) (cv_stagedIsZero H) o_submit_22 (run_stagedIsZero H F G A B) (wt := 0) (cu' := 0) (su' := 0) (by decide) rfl rfl rfl rfl rfl rfl rfl ?_
      refine Wk.if_eq o_submit_25 (fun q3 => ?_) (fun q3 => ?_)
      · refine Wk.aloadN o_submit_31 rfl ?_
        refine Wk.iloadN o_submit_32 rfl ?_
        refine Wk.callF [.int p2] [] (H.w 92 rfl) (cv_stagedNeverFits H) o_submit_33 (run_stagedNeverFits H F G A B p2 (s4 q1 q2 q3)) (wt := 0) (cu' := 0) (su' := 0) (by decide) rfl rfl rfl rfl rfl rfl rfl ?_
        refine Wk.if_eq o_submit_36 (fun q5 => ?_) (fun q5 => ?_)
        · refine Wk.aloadN o_submit_42 rfl ?_
          refine Wk.callF [] [] (H.w 96 rfl) (cv_lowestFreeSlot H) o_submit_43 (run_lowestFreeSlot H F G A B (s6 q1 q2 q3 q5)) (wt := 0) (cu' := 0) (su' := 0) (by decide) rfl rfl rfl rfl rfl rfl rfl ?_
          refine Wk.istoreN o_submit_46 (Or.inl rfl) (L' := [.val (.ref 0), .val (.int p1), .val (.int p2), .val (.int (R_lowestFreeSlot F A ))]) rfl ?_
          refine Wk.iloadN o_submit_47 rfl ?_
          refine Wk.if_ge o_submit_48 (fun q7 => ?_) (fun q7 => ?_)
          · refine Wk.aloadN o_submit_54 rfl ?_
            refine Wk.iloadN o_submit_55 rfl ?_
            refine Wk.iloadN o_submit_56 rfl ?_
            refine Wk.iloadN o_submit_57 rfl ?_
            refine Wk.callU [.int (R_lowestFreeSlot F A ), .int p1, .int p2] [] (H.w 100 rfl) (cv_occupySlot H) o_submit_58 (run_occupySlot H F G A B (R_lowestFreeSlot F A ) p1 p2 (s8 q1 q2 q3 q5 q7)) (wt := 0) (cu' := 0) (su' := 0) (by decide) rfl rfl rfl rfl rfl rfl rfl ?_
            refine Wk.aloadN o_submit_61 rfl ?_
            refine Wk.callU [] [] (H.w 104 rfl) (cv_runReservationRule H) o_submit_62 (run_runReservationRule H (R_occupySlot F G A B (R_lowestFreeSlot F A ) p1 p2).2.1 (R_occupySlot F G A B (R_lowestFreeSlot F A ) p1 p2).2.2.1 (R_occupySlot F G A B (R_lowestFreeSlot F A ) p1 p2).2.2.2.1 (R_occupySlot F G A B (R_lowestFreeSlot F A ) p1 p2).2.2.2.2 (s9 q1 q2 q3 q5 q7)) (wt := 0) (cu' := 0) (su' := 0) (by decide) rfl rfl rfl rfl rfl rfl rfl ?_
            refine Wk.iloadN o_submit_65 rfl ?_
            exact Wk.ireturn mrC rfl o_submit_66 rfl (by decide) (by decide) (h10 q1 q2 q3 q5 q7)
          · refine Wk.bipush o_submit_51 (z := (-5 : Int32)) (by decide) ?_
            exact Wk.ireturn mrC rfl o_submit_53 rfl (by decide) (by decide) (h11 q1 q2 q3 q5 q7)
        · refine Wk.bipush o_submit_39 (z := (-4 : Int32)) (by decide) ?_
          exact Wk.ireturn mrC rfl o_submit_41 rfl (by decide) (by decide) (h12 q1 q2 q3 q5)
      · refine Wk.bipush o_submit_28 (z := (-3 : Int32)) (by decide) ?_
        exact Wk.ireturn mrC rfl o_submit_30 rfl (by decide) (by decide) (h13 q1 q2 q3)
    · refine Wk.bipush o_submit_18 (z := (-2 : Int32)) (by decide) ?_
      exact Wk.ireturn mrC rfl o_submit_20 rfl (by decide) (by decide) (h14 q1 q2)
  · refine Wk.iconst o_submit_8 (z := (-1 : Int32)) (by decide) ?_
    exact Wk.ireturn mrC rfl o_submit_9 rfl (by decide) (by decide) (h15 q1)

theorem rt_submit (v0 : Int32) (xF : Nat → Int32) (xG : Nat → Int64) (xA : Nat → Int32 → Int32) (xB : Nat → Int32 → Int64) (r : Int32 × (Nat → Int32) × (Nat → Int64) × (Nat → Int32 → Int32) × (Nat → Int32 → Int64)) (e : (v0, xF, xG, xA, xB) = r) : some (Value.int v0) = some (.int r.1) ∧ (15, xF, xG, xA, xB) = (15, r.2.1, r.2.2.1, r.2.2.2.1, r.2.2.2.2) := by subst e; exact ⟨rfl, rfl⟩
def en_submit (F : Nat → Int32) (G : Nat → Int64) (A : Nat → Int32 → Int32) (B : Nat → Int32 → Int64) (p1 : Int32) (p2 : Int32) : Option (Int32 × (Nat → Int32) × (Nat → Int64) × (Nat → Int32 → Int32) × (Nat → Int32 → Int64)) := (if (f_isUser F p1) = 0 then some ((-1 : Int32), F, G, A, B) else (if (f_isGangValue p2) = 0 then some ((-2 : Int32), F, G, A, B) else (if (f_stagedIsZero A) = 0 then (if ((en_stagedNeverFits A p2).isSome = true) then (if (R_stagedNeverFits A p2) = 0 then (if ((en_lowestFreeSlot F A ).isSome = true) then (if (R_lowestFreeSlot F A ) < 0 then some ((-5 : Int32), F, G, A, B) else (if ((en_occupySlot F G A B (R_lowestFreeSlot F A ) p1 p2).isSome = true) ∧ ((en_runReservationRule (R_occupySlot F G A B (R_lowestFreeSlot F A ) p1 p2).2.1 (R_occupySlot F G A B (R_lowestFreeSlot F A ) p1 p2).2.2.2.1 ).isSome = true) then some ((R_lowestFreeSlot F A ), (R_runReservationRule (R_occupySlot F G A B (R_lowestFreeSlot F A ) p1 p2).2.1 (R_occupySlot F G A B (R_lowestFreeSlot F A ) p1 p2).2.2.2.1 ).2, (R_occupySlot F G A B (R_lowestFreeSlot F A ) p1 p2).2.2.1, (R_occupySlot F G A B (R_lowestFreeSlot F A ) p1 p2).2.2.2.1, (R_occupySlot F G A B (R_lowestFreeSlot F A ) p1 p2).2.2.2.2) else none)) else none) else some ((-4 : Int32), F, G, A, B)) else none) else some ((-3 : Int32), F, G, A, B))))
theorem een_submit (F : Nat → Int32) (G : Nat → Int64) (A : Nat → Int32 → Int32) (B : Nat → Int32 → Int64) (p1 : Int32) (p2 : Int32) : en_submit F G A B p1 p2 = (if (f_isUser F p1) = 0 then some ((-1 : Int32), F, G, A, B) else (if (f_isGangValue p2) = 0 then some ((-2 : Int32), F, G, A, B) else (if (f_stagedIsZero A) = 0 then (if ((en_stagedNeverFits A p2).isSome = true) then (if (R_stagedNeverFits A p2) = 0 then (if ((en_lowestFreeSlot F A ).isSome = true) then (if (R_lowestFreeSlot F A ) < 0 then some ((-5 : Int32), F, G, A, B) else (if ((en_occupySlot F G A B (R_lowestFreeSlot F A ) p1 p2).isSome = true) ∧ ((en_runReservationRule (R_occupySlot F G A B (R_lowestFreeSlot F A ) p1 p2).2.1 (R_occupySlot F G A B (R_lowestFreeSlot F A ) p1 p2).2.2.2.1 ).isSome = true) then some ((R_lowestFreeSlot F A ), (R_runReservationRule (R_occupySlot F G A B (R_lowestFreeSlot F A ) p1 p2).2.1 (R_occupySlot F G A B (R_lowestFreeSlot F A ) p1 p2).2.2.2.1 ).2, (R_occupySlot F G A B (R_lowestFreeSlot F A ) p1 p2).2.2.1, (R_occupySlot F G A B (R_lowestFreeSlot F A ) p1 p2).2.2.2.1, (R_occupySlot F G A B (R_lowestFreeSlot F A ) p1 p2).2.2.2.2) else none)) else none) else some ((-4 : Int32), F, G, A, B)) else none) else some ((-3 : Int32), F, G, A, B)))) := Eq.trans rfl rfl
def R_submit (F : Nat → Int32) (G : Nat → Int64) (A : Nat → Int32 → Int32) (B : Nat → Int32 → Int64) (p1 : Int32) (p2 : Int32) : Int32 × (Nat → Int32) × (Nat → Int64) × (Nat → Int32 → Int32) × (Nat → Int32 → Int64) := (en_submit F G A B p1 p2).getD (0, (fun _ => 0), (fun _ => 0), (fun _ _ => 0), (fun _ _ => 0))
theorem eR_submit (F : Nat → Int32) (G : Nat → Int64) (A : Nat → Int32 → Int32) (B : Nat → Int32 → Int64) (p1 : Int32) (p2 : Int32) : R_submit F G A B p1 p2 = (en_submit F G A B p1 p2).getD (0, (fun _ => 0), (fun _ => 0), (fun _ _ => 0), (fun _ _ => 0)) := Eq.trans rfl rfl
set_option maxRecDepth 65536 in
set_option maxHeartbeats 4000000 in
theorem run_submit {l : Launch} {Z : State} {a0 : Array Value} (H : OK Z a0) (F : Nat → Int32) (G : Nat → Int64) (A : Nat → Int32 → Int32) (B : Nat → Int32 → Int64) (p1 : Int32) (p2 : Int32) (e1 : (en_submit F G A B p1 p2).isSome = true) :
    Wk l Z (MoC Z cdC) md_submit 0 [.val (.ref 0), .val (.int p1), .val (.int p2), .unset] [] (15, F, G, A, B) 0 0 (fun v w' => v = some (.int (R_submit F G A B p1 p2).1) ∧ w' = (15, (R_submit F G A B p1 p2).2.1, (R_submit F G A B p1 p2).2.2.1, (R_submit F G A B p1 p2).2.2.2.1, (R_submit F G A B p1 p2).2.2.2.2)) := by
  obtain ⟨r, h⟩ := Option.isSome_iff_exists.mp e1
  have e : R_submit F G A B p1 p2 = r := (eR_submit F G A B p1 p2).trans (getD_some h)
  rw [e]
  rw [een_submit] at h
  exact wp_submit H F G A B p1 p2 (fun q1 q2 q3 => (gd (ifp q3 (ifn q2 (ifn q1 h)))).1) (fun q1 q2 q3 q5 => (gd (ifp q5 (gd (ifp q3 (ifn q2 (ifn q1 h)))).2)).1) (fun q1 q2 q3 q5 q7 => (gd (ifn q7 (gd (ifp q5 (gd (ifp q3 (ifn q2 (ifn q1 h)))).2)).2)).1.1) (fun q1 q2 q3 q5 q7 => (gd (ifn q7 (gd (ifp q5 (gd (ifp q3 (ifn q2 (ifn q1 h)))).2)).2)).1.2) (fun q1 q2 q3 q5 q7 => (rt_submit _ _ _ _ _ r (Option.some.inj (gd (ifn q7 (gd (ifp q5 (gd (ifp q3 (ifn q2 (ifn q1 h)))).2)).2)).2))) (fun q1 q2 q3 q5 q7 => (rt_submit _ _ _ _ _ r (Option.some.inj (ifp q7 (gd (ifp q5 (gd (ifp q3 (ifn q2 (ifn q1 h)))).2)).2)))) (fun q1 q2 q3 q5 => (rt_submit _ _ _ _ _ r (Option.some.inj (ifn q5 (gd (ifp q3 (ifn q2 (ifn q1 h)))).2)))) (fun q1 q2 q3 => (rt_submit _ _ _ _ _ r (Option.some.inj (ifn q3 (ifn q2 (ifn q1 h)))))) (fun q1 q2 => (rt_submit _ _ _ _ _ r (Option.some.inj (ifp q2 (ifn q1 h))))) (fun q1 => (rt_submit _ _ _ _ _ r (Option.some.inj (ifp q1 h))))
set_option maxRecDepth 65536 in
set_option maxHeartbeats 4000000 in
theorem wp_L_dom {l : Launch} {Z : State} {a0 : Array Value} (H : OK Z a0) (sl : Int32) (sv : Int32 → Int32) (ws : List WO) (p1 : Int64) (p2 : Int64) (p3 : Int64) (p4 : Int64) {Q : Option Value → WL → Prop} (h3 : Q (some (.long (if 0 < (XT.cmpL (p1 * p4) (p2 * p3)) then (p1 * p4) else (p2 * p3)))) (sl, sv, ws)) :
    Wk l Z (MoL Z cdC "DominantShareL3" false) md_L_dom 0 [.val (.long p1), .second, .val (.long p2), .second, .val (.long p3), .second, .val (.long p4), .second, .unset, .unset, .unset, .unset] [] (sl, sv, ws) 0 0 Q := by
  refine Wk.lloadN o_L_dom_0 rfl ?_
  refine Wk.lload o_L_dom_1 rfl ?_
  refine Wk.lmul o_L_dom_3 ?_
  refine Wk.lstore o_L_dom_4 (Or.inl rfl) (Or.inl rfl) (L' := [.val (.long p1), .second, .val (.long p2), .second, .val (.long p3), .second, .val (.long p4), .second, .val (.long (p1 * p4)), .second, .unset, .unset]) rfl ?_
  refine Wk.lloadN o_L_dom_6 rfl ?_
  refine Wk.lload o_L_dom_7 rfl ?_
  refine Wk.lmul o_L_dom_9 ?_
  refine Wk.lstore o_L_dom_10 (Or.inl rfl) (Or.inl rfl) (L' := [.val (.long p1), .second, .val (.long p2), .second, .val (.long p3), .second, .val (.long p4), .second, .val (.long (p1 * p4)), .second, .val (.long (p2 * p3)), .second]) rfl ?_
  refine Wk.lload o_L_dom_12 rfl ?_
  refine Wk.lload o_L_dom_14 rfl ?_
  refine Wk.lcmp o_L_dom_16 ?_
  have J2 : Wk l Z (MoL Z cdC "DominantShareL3" false) md_L_dom 27 [.val (.long p1), .second, .val (.long p2), .second, .val (.long p3), .second, .val (.long p4), .second, .val (.long (p1 * p4)), .second, .val (.long (p2 * p3)), .second] [.long (if 0 < (XT.cmpL (p1 * p4) (p2 * p3)) then (p1 * p4) else (p2 * p3))] (sl, sv, ws) 0 0 Q := by
    exact Wk.lreturn mrL rfl o_L_dom_27 rfl (by decide) (by decide) h3
  refine Wk.if_le o_L_dom_17 (fun q1 => ?_) (fun q1 => ?_)
  · refine Wk.lload o_L_dom_25 rfl ?_
    first | (rw [show ((if 0 < (XT.cmpL (p1 * p4) (p2 * p3)) then (p1 * p4) else (p2 * p3)) : Int64) = (p2 * p3) from if_neg q1] at J2; exact J2) | exact J2 | (simp only [if_neg q1] at J2 ⊢; exact J2)
  · refine Wk.lload o_L_dom_20 rfl ?_
    refine Wk.goto o_L_dom_22 ?_
    first | (rw [show ((if 0 < (XT.cmpL (p1 * p4) (p2 * p3)) then (p1 * p4) else (p2 * p3)) : Int64) = (p1 * p4) from if_pos q1] at J2; exact J2) | exact J2 | (simp only [if_pos q1] at J2 ⊢; exact J2)
def f_L_dom (p1 : Int64) (p2 : Int64) (p3 : Int64) (p4 : Int64) : Int64 := (if 0 < (XT.cmpL (p1 * p4) (p2 * p3)) then (p1 * p4) else (p2 * p3))
theorem e_L_dom (p1 : Int64) (p2 : Int64) (p3 : Int64) (p4 : Int64) : f_L_dom p1 p2 p3 p4 = (if 0 < (XT.cmpL (p1 * p4) (p2 * p3)) then (p1 * p4) else (p2 * p3)) := Eq.trans rfl rfl
theorem run_L_dom {l : Launch} {Z : State} {a0 : Array Value} (H : OK Z a0) (sl : Int32) (sv : Int32 → Int32) (ws : List WO) (p1 : Int64) (p2 : Int64) (p3 : Int64) (p4 : Int64) :
    Wk l Z (MoL Z cdC "DominantShareL3" false) md_L_dom 0 [.val (.long p1), .second, .val (.long p2), .second, .val (.long p3), .second, .val (.long p4), .second, .unset, .unset, .unset, .unset] [] (sl, sv, ws) 0 0 (fun v w2 => v = some (.long (f_L_dom p1 p2 p3 p4)) ∧ w2 = (sl, sv, ws)) :=
  wp_L_dom H sl sv ws p1 p2 p3 p4 ⟨rfl, rfl⟩
set_option maxRecDepth 65536 in
set_option maxHeartbeats 4000000 in
theorem wp_needOf {l : Launch} {Z : State} {a0 : Array Value} (H : OK Z a0) (F : Nat → Int32) (G : Nat → Int64) (A : Nat → Int32 → Int32) (B : Nat → Int32 → Int64) (p1 : Int32) (p2 : Int32) {Q : Option Value → WO → Prop} (s1 : ¬ p1 < 0) (s2 : p1 < (32 : Int32)) (s3 : ¬ ((p1 * (3 : Int32)) + p2) < 0) (s4 : ((p1 * (3 : Int32)) + p2) < (96 : Int32)) (h5 : Q (some (.int (((A 12) p1) * ((A 13) ((p1 * (3 : Int32)) + p2))))) (15, F, G, A, B)) :
    Wk l Z (MoC Z cdC) md_needOf 0 [.val (.ref 0), .val (.int p1), .val (.int p2)] [] (15, F, G, A, B) 0 0 Q := by
  refine Wk.aloadN o_needOf_0 rfl ?_
  refine Wk.getA (mA_slotGang) (by decide) (i' := 13) rfl (wf_slotGang H) o_needOf_1 ?_
  refine Wk.iloadN o_needOf_4 rfl ?_
  refine Wk.iaload (mA_slotGang) (by decide) (i' := 13) rfl s1 s2 o_needOf_5 (y := ((A 12) p1)) rfl ?_
  refine Wk.aloadN o_needOf_6 rfl ?_
  refine Wk.getA (mA_slotDemand) (by decide) (i' := 14) rfl (wf_slotDemand H) o_needOf_7 ?_
  refine Wk.iloadN o_needOf_10 rfl ?_
  refine Wk.iconst o_needOf_11 (z := (3 : Int32)) (by decide) ?_
  refine Wk.imul o_needOf_12 ?_
  refine Wk.iloadN o_needOf_13 rfl ?_
  refine Wk.iadd o_needOf_14 ?_
  refine Wk.iaload (mA_slotDemand) (by decide) (i' := 14) rfl s3 s4 o_needOf_15 (y := ((A 13) ((p1 * (3 : Int32)) + p2))) rfl ?_
  refine Wk.imul o_needOf_16 ?_
  exact Wk.ireturn mrC rfl o_needOf_17 rfl (by decide) (by decide) h5

theorem rt_needOf (F : Nat → Int32) (G : Nat → Int64) (A : Nat → Int32 → Int32) (B : Nat → Int32 → Int64) (v0 : Int32) (r : Int32) (e : v0 = r) : some (Value.int v0) = some (.int r) ∧ (15, F, G, A, B) = (15, F, G, A, B) := by subst e; exact ⟨rfl, rfl⟩
def en_needOf (A : Nat → Int32 → Int32) (p1 : Int32) (p2 : Int32) : Option (Int32) := (if (¬ p1 < 0) ∧ (p1 < (32 : Int32)) ∧ (¬ ((p1 * (3 : Int32)) + p2) < 0) ∧ (((p1 * (3 : Int32)) + p2) < (96 : Int32)) then some ((((A 12) p1) * ((A 13) ((p1 * (3 : Int32)) + p2)))) else none)
theorem een_needOf (A : Nat → Int32 → Int32) (p1 : Int32) (p2 : Int32) : en_needOf A p1 p2 = (if (¬ p1 < 0) ∧ (p1 < (32 : Int32)) ∧ (¬ ((p1 * (3 : Int32)) + p2) < 0) ∧ (((p1 * (3 : Int32)) + p2) < (96 : Int32)) then some ((((A 12) p1) * ((A 13) ((p1 * (3 : Int32)) + p2)))) else none) := Eq.trans rfl rfl
def R_needOf (A : Nat → Int32 → Int32) (p1 : Int32) (p2 : Int32) : Int32 := (en_needOf A p1 p2).getD (0)
theorem eR_needOf (A : Nat → Int32 → Int32) (p1 : Int32) (p2 : Int32) : R_needOf A p1 p2 = (en_needOf A p1 p2).getD (0) := Eq.trans rfl rfl
set_option maxRecDepth 65536 in
set_option maxHeartbeats 4000000 in
theorem run_needOf {l : Launch} {Z : State} {a0 : Array Value} (H : OK Z a0) (F : Nat → Int32) (G : Nat → Int64) (A : Nat → Int32 → Int32) (B : Nat → Int32 → Int64) (p1 : Int32) (p2 : Int32) (e1 : (en_needOf A p1 p2).isSome = true) :
    Wk l Z (MoC Z cdC) md_needOf 0 [.val (.ref 0), .val (.int p1), .val (.int p2)] [] (15, F, G, A, B) 0 0 (fun v w' => v = some (.int (R_needOf A p1 p2)) ∧ w' = (15, F, G, A, B)) := by
  obtain ⟨r, h⟩ := Option.isSome_iff_exists.mp e1
  have e : R_needOf A p1 p2 = r := (eR_needOf A p1 p2).trans (getD_some h)
  rw [e]
  rw [een_needOf] at h
  exact wp_needOf H F G A B p1 p2 ((gd h).1.1) ((gd h).1.2.1) ((gd h).1.2.2.1) ((gd h).1.2.2.2) ((rt_needOf _ _ _ _ _ r (Option.some.inj (gd h).2)))
set_option maxRecDepth 65536 in
set_option maxHeartbeats 4000000 in
theorem wp_freeOf {l : Launch} {Z : State} {a0 : Array Value} (H : OK Z a0) (F : Nat → Int32) (G : Nat → Int64) (A : Nat → Int32 → Int32) (B : Nat → Int32 → Int64) (p1 : Int32) {Q : Option Value → WO → Prop} (s1 : ¬ p1 < 0) (s2 : p1 < (3 : Int32)) (h3 : Q (some (.int (((A 0) p1) - ((A 1) p1)))) (15, F, G, A, B)) :
    Wk l Z (MoC Z cdC) md_freeOf 0 [.val (.ref 0), .val (.int p1)] [] (15, F, G, A, B) 0 0 Q := by
  refine Wk.aloadN o_freeOf_0 rfl ?_
  refine Wk.getA (mA_capRes) (by decide) (i' := 1) rfl (wf_capRes H) o_freeOf_1 ?_
  refine Wk.iloadN o_freeOf_4 rfl ?_
  refine Wk.iaload (mA_capRes) (by decide) (i' := 1) rfl s1 s2 o_freeOf_5 (y := ((A 0) p1)) rfl ?_
  refine Wk.aloadN o_freeOf_6 rfl ?_
  refine Wk.getA (mA_usedRes) (by decide) (i' := 2) rfl (wf_usedRes H) o_freeOf_7 ?_
  refine Wk.iloadN o_freeOf_10 rfl ?_
  refine Wk.iaload (mA_usedRes) (by decide) (i' := 2) rfl s1 s2 o_freeOf_11 (y := ((A 1) p1)) rfl ?_
  refine Wk.isub o_freeOf_12 ?_
  exact Wk.ireturn mrC rfl o_freeOf_13 rfl (by decide) (by decide) h3

theorem rt_freeOf (F : Nat → Int32) (G : Nat → Int64) (A : Nat → Int32 → Int32) (B : Nat → Int32 → Int64) (v0 : Int32) (r : Int32) (e : v0 = r) : some (Value.int v0) = some (.int r) ∧ (15, F, G, A, B) = (15, F, G, A, B) := by subst e; exact ⟨rfl, rfl⟩
def en_freeOf (A : Nat → Int32 → Int32) (p1 : Int32) : Option (Int32) := (if (¬ p1 < 0) ∧ (p1 < (3 : Int32)) then some ((((A 0) p1) - ((A 1) p1))) else none)
theorem een_freeOf (A : Nat → Int32 → Int32) (p1 : Int32) : en_freeOf A p1 = (if (¬ p1 < 0) ∧ (p1 < (3 : Int32)) then some ((((A 0) p1) - ((A 1) p1))) else none) := Eq.trans rfl rfl
def R_freeOf (A : Nat → Int32 → Int32) (p1 : Int32) : Int32 := (en_freeOf A p1).getD (0)
theorem eR_freeOf (A : Nat → Int32 → Int32) (p1 : Int32) : R_freeOf A p1 = (en_freeOf A p1).getD (0) := Eq.trans rfl rfl
set_option maxRecDepth 65536 in
set_option maxHeartbeats 4000000 in
theorem run_freeOf {l : Launch} {Z : State} {a0 : Array Value} (H : OK Z a0) (F : Nat → Int32) (G : Nat → Int64) (A : Nat → Int32 → Int32) (B : Nat → Int32 → Int64) (p1 : Int32) (e1 : (en_freeOf A p1).isSome = true) :
    Wk l Z (MoC Z cdC) md_freeOf 0 [.val (.ref 0), .val (.int p1)] [] (15, F, G, A, B) 0 0 (fun v w' => v = some (.int (R_freeOf A p1)) ∧ w' = (15, F, G, A, B)) := by
  obtain ⟨r, h⟩ := Option.isSome_iff_exists.mp e1
  have e : R_freeOf A p1 = r := (eR_freeOf A p1).trans (getD_some h)
  rw [e]
  rw [een_freeOf] at h
  exact wp_freeOf H F G A B p1 ((gd h).1.1) ((gd h).1.2) ((rt_freeOf _ _ _ _ _ r (Option.some.inj (gd h).2)))
set_option maxRecDepth 65536 in
set_option maxHeartbeats 4000000 in
theorem wp_availableFor {l : Launch} {Z : State} {a0 : Array Value} (H : OK Z a0) (F : Nat → Int32) (G : Nat → Int64) (A : Nat → Int32 → Int32) (B : Nat → Int32 → Int64) (p1 : Int32) (p2 : Int32) {Q : Option Value → WO → Prop} (s1 : (en_freeOf A p2).isSome = true) (s3 : ¬ (f_isTask (F 2)) = 0 → ¬ (F 2) < 0) (s4 : ¬ (f_isTask (F 2)) = 0 → (F 2) < (32 : Int32)) (s6 : ¬ (f_isTask (F 2)) = 0 → ¬ ((A 11) (F 2)) = p1 → (en_needOf A (F 2) p2).isSome = true) (h7 : ¬ (f_isTask (F 2)) = 0 → ¬ ((A 11) (F 2)) = p1 → Q (some (.int ((R_freeOf A p2) - (R_needOf A (F 2) p2)))) (15, F, G, A, B)) (h8 : ¬ (f_isTask (F 2)) = 0 → ((A 11) (F 2)) = p1 → Q (some (.int (R_freeOf A p2))) (15, F, G, A, B)) (h9 : (f_isTask (F 2)) = 0 → Q (some (.int (R_freeOf A p2))) (15, F, G, A, B)) :
    Wk l Z (MoC Z cdC) md_availableFor 0 [.val (.ref 0), .val (.int p1), .val (.int p2), .unset] [] (15, F, G, A, B) 0 0 Q := by
  refine Wk.aloadN o_availableFor_0 rfl ?_
  refine Wk.iloadN o_availableFor_1 rfl ?_
  refine Wk.callF [.int p2] [] (H.w 165 rfl) (cv_freeOf H) o_availableFor_2 (run_freeOf H F G A B p2 s1) (wt := 0) (cu' := 0) (su' := 0) (by decide) rfl rfl rfl rfl rfl rfl rfl ?_
  refine Wk.istoreN o_availableFor_5 (Or.inl rfl) (L' := [.val (.ref 0), .val (.int p1), .val (.int p2), .val (.int (R_freeOf A p2))]) rfl ?_
  refine Wk.aloadN o_availableFor_6 rfl ?_
  refine Wk.aloadN o_availableFor_7 rfl ?_
  refine Wk.getI (mI_reserved) (wf_reserved H) o_availableFor_8 (x := (F 2)) rfl ?_
  refine Wk.callF [.int (F 2)] [] (H.w 124 rfl) (cv_isTask H) o_availableFor_11 (run_isTask H F G A B (F 2)) (wt := 0) (cu' := 0) (su' := 0) (by decide) rfl rfl rfl rfl rfl rfl rfl ?_
  refine Wk.if_ne o_availableFor_14 (fun q2 => ?_) (fun q2 => ?_)
  · refine Wk.aloadN o_availableFor_19 rfl ?_
    refine Wk.getA (mA_slotUser) (by decide) (i' := 12) rfl (wf_slotUser H) o_availableFor_20 ?_
    refine Wk.aloadN o_availableFor_23 rfl ?_
    refine Wk.getI (mI_reserved) (wf_reserved H) o_availableFor_24 (x := (F 2)) rfl ?_
    refine Wk.iaload (mA_slotUser) (by decide) (i' := 12) rfl (s3 q2) (s4 q2) o_availableFor_27 (y := ((A 11) (F 2))) rfl ?_
    refine Wk.iloadN o_availableFor_28 rfl ?_
    refine Wk.icmp_ne o_availableFor_29 (fun q5 => ?_) (fun q5 => ?_)
    · refine Wk.iloadN o_availableFor_34 rfl ?_
      refine Wk.aloadN o_availableFor_35 rfl ?_
      refine Wk.aloadN o_availableFor_36 rfl ?_
      refine Wk.getI (mI_reserved) (wf_reserved H) o_availableFor_37 (x := (F 2)) rfl ?_
      refine Wk.iloadN o_availableFor_40 rfl ?_
      refine Wk.callF [.int (F 2), .int p2] [.int (R_freeOf A p2)] (H.w 157 rfl) (cv_needOf H) o_availableFor_41 (run_needOf H F G A B (F 2) p2 (s6 q2 q5)) (wt := 1) (cu' := 0) (su' := 0) (by decide) rfl rfl rfl rfl rfl rfl rfl ?_
      refine Wk.isub o_availableFor_44 ?_
      exact Wk.ireturn mrC rfl o_availableFor_45 rfl (by decide) (by decide) (h7 q2 q5)
    · refine Wk.iloadN o_availableFor_32 rfl ?_
      exact Wk.ireturn mrC rfl o_availableFor_33 rfl (by decide) (by decide) (h8 q2 q5)
  · refine Wk.iloadN o_availableFor_17 rfl ?_
    exact Wk.ireturn mrC rfl o_availableFor_18 rfl (by decide) (by decide) (h9 q2)

theorem rt_availableFor (F : Nat → Int32) (G : Nat → Int64) (A : Nat → Int32 → Int32) (B : Nat → Int32 → Int64) (v0 : Int32) (r : Int32) (e : v0 = r) : some (Value.int v0) = some (.int r) ∧ (15, F, G, A, B) = (15, F, G, A, B) := by subst e; exact ⟨rfl, rfl⟩
def en_availableFor (F : Nat → Int32) (A : Nat → Int32 → Int32) (p1 : Int32) (p2 : Int32) : Option (Int32) := (if ((en_freeOf A p2).isSome = true) then (if (f_isTask (F 2)) = 0 then some ((R_freeOf A p2)) else (if (¬ (F 2) < 0) ∧ ((F 2) < (32 : Int32)) then (if ((A 11) (F 2)) = p1 then some ((R_freeOf A p2)) else (if ((en_needOf A (F 2) p2).isSome = true) then some (((R_freeOf A p2) - (R_needOf A (F 2) p2))) else none)) else none)) else none)
theorem een_availableFor (F : Nat → Int32) (A : Nat → Int32 → Int32) (p1 : Int32) (p2 : Int32) : en_availableFor F A p1 p2 = (if ((en_freeOf A p2).isSome = true) then (if (f_isTask (F 2)) = 0 then some ((R_freeOf A p2)) else (if (¬ (F 2) < 0) ∧ ((F 2) < (32 : Int32)) then (if ((A 11) (F 2)) = p1 then some ((R_freeOf A p2)) else (if ((en_needOf A (F 2) p2).isSome = true) then some (((R_freeOf A p2) - (R_needOf A (F 2) p2))) else none)) else none)) else none) := Eq.trans rfl rfl
def R_availableFor (F : Nat → Int32) (A : Nat → Int32 → Int32) (p1 : Int32) (p2 : Int32) : Int32 := (en_availableFor F A p1 p2).getD (0)
theorem eR_availableFor (F : Nat → Int32) (A : Nat → Int32 → Int32) (p1 : Int32) (p2 : Int32) : R_availableFor F A p1 p2 = (en_availableFor F A p1 p2).getD (0) := Eq.trans rfl rfl
set_option maxRecDepth 65536 in
set_option maxHeartbeats 4000000 in
theorem run_availableFor {l : Launch} {Z : State} {a0 : Array Value} (H : OK Z a0) (F : Nat → Int32) (G : Nat → Int64) (A : Nat → Int32 → Int32) (B : Nat → Int32 → Int64) (p1 : Int32) (p2 : Int32) (e1 : (en_availableFor F A p1 p2).isSome = true) :
    Wk l Z (MoC Z cdC) md_availableFor 0 [.val (.ref 0), .val (.int p1), .val (.int p2), .unset] [] (15, F, G, A, B) 0 0 (fun v w' => v = some (.int (R_availableFor F A p1 p2)) ∧ w' = (15, F, G, A, B)) := by
  obtain ⟨r, h⟩ := Option.isSome_iff_exists.mp e1
  have e : R_availableFor F A p1 p2 = r := (eR_availableFor F A p1 p2).trans (getD_some h)
  rw [e]
  rw [een_availableFor] at h
  exact wp_availableFor H F G A B p1 p2 ((gd h).1) (fun q2 => (gd (ifn q2 (gd h).2)).1.1) (fun q2 => (gd (ifn q2 (gd h).2)).1.2) (fun q2 q5 => (gd (ifn q5 (gd (ifn q2 (gd h).2)).2)).1) (fun q2 q5 => (rt_availableFor _ _ _ _ _ r (Option.some.inj (gd (ifn q5 (gd (ifn q2 (gd h).2)).2)).2))) (fun q2 q5 => (rt_availableFor _ _ _ _ _ r (Option.some.inj (ifp q5 (gd (ifn q2 (gd h).2)).2)))) (fun q2 => (rt_availableFor _ _ _ _ _ r (Option.some.inj (ifp q2 (gd h).2))))
set_option maxRecDepth 65536 in
set_option maxHeartbeats 4000000 in
theorem wp_headFits {l : Launch} {Z : State} {a0 : Array Value} (H : OK Z a0) (F : Nat → Int32) (G : Nat → Int64) (A : Nat → Int32 → Int32) (B : Nat → Int32 → Int64) (p1 : Int32) (p2 : Int32) {Q : Option Value → WO → Prop} (h1 : Wk l Z (MoC Z cdC) md_headFits 2 [.val (.ref 0), .val (.int p1), .val (.int p2), .val (.int (0 : Int32)), .unset] [] (15, F, G, A, B) 0 0 Q) :
    Wk l Z (MoC Z cdC) md_headFits 0 [.val (.ref 0), .val (.int p1), .val (.int p2), .unset, .unset] [] (15, F, G, A, B) 0 0 Q := by
  refine Wk.iconst o_headFits_0 (z := (0 : Int32)) (by decide) ?_
  refine Wk.istoreN o_headFits_1 (Or.inl rfl) (L' := [.val (.ref 0), .val (.int p1), .val (.int p2), .val (.int (0 : Int32)), .unset]) rfl ?_
  exact h1

set_option maxRecDepth 65536 in
set_option maxHeartbeats 4000000 in
theorem wp_headFits_2 {l : Launch} {Z : State} {a0 : Array Value} (H : OK Z a0) (F : Nat → Int32) (G : Nat → Int64) (A : Nat → Int32 → Int32) (B : Nat → Int32 → Int64) (v1 : Int32) (v2 : Int32) (v3 : Int32) {Q : Option Value → WO → Prop} (h2 : ¬ v3 < (3 : Int32) → Q (some (.int (1 : Int32))) (15, F, G, A, B)) (s3 : v3 < (3 : Int32) → (en_needOf A v2 v3).isSome = true) (h5 : v3 < (3 : Int32) → (R_needOf A v2 v3) = 0 → Wk l Z (MoC Z cdC) md_headFits 2 [.val (.ref 0), .val (.int v1), .val (.int v2), .val (.int (v3 + (1 : Int32))), .unset] [] (15, F, G, A, B) 0 0 Q) (s6 : v3 < (3 : Int32) → ¬ (R_needOf A v2 v3) = 0 → (en_availableFor F A v1 v3).isSome = true) (h8 : v3 < (3 : Int32) → ¬ (R_needOf A v2 v3) = 0 → ¬ (R_availableFor F A v1 v3) < (R_needOf A v2 v3) → Wk l Z (MoC Z cdC) md_headFits 2 [.val (.ref 0), .val (.int v1), .val (.int v2), .val (.int (v3 + (1 : Int32))), .unset] [] (15, F, G, A, B) 0 0 Q) (h9 : v3 < (3 : Int32) → ¬ (R_needOf A v2 v3) = 0 → (R_availableFor F A v1 v3) < (R_needOf A v2 v3) → Q (some (.int (0 : Int32))) (15, F, G, A, B)) :
    Wk l Z (MoC Z cdC) md_headFits 2 [.val (.ref 0), .val (.int v1), .val (.int v2), .val (.int v3), .unset] [] (15, F, G, A, B) 0 0 Q := by
  refine Wk.iloadN o_headFits_2 rfl ?_
  refine Wk.iconst o_headFits_3 (z := (3 : Int32)) (by decide) ?_
  refine Wk.icmp_ge o_headFits_4 (fun q1 => ?_) (fun q1 => ?_)
  · refine Wk.iconst o_headFits_39 (z := (1 : Int32)) (by decide) ?_
    exact Wk.zreturn mrC rfl o_headFits_40 rfl (by decide) (by decide) (y := (1 : Int32)) (by decide) (h2 q1)
  · refine Wk.aloadN o_headFits_7 rfl ?_
    refine Wk.iloadN o_headFits_8 rfl ?_
    refine Wk.iloadN o_headFits_9 rfl ?_
    refine Wk.callF [.int v2, .int v3] [] (H.w 157 rfl) (cv_needOf H) o_headFits_10 (run_needOf H F G A B v2 v3 (s3 q1)) (wt := 0) (cu' := 0) (su' := 0) (by decide) rfl rfl rfl rfl rfl rfl rfl ?_
    refine Wk.istore o_headFits_13 (Or.inl rfl) (L' := [.val (.ref 0), .val (.int v1), .val (.int v2), .val (.int v3), .val (.int (R_needOf A v2 v3))]) rfl ?_
    refine Wk.iload o_headFits_15 rfl ?_
    refine Wk.if_eq o_headFits_17 (fun q4 => ?_) (fun q4 => ?_)
    · refine Wk.iinc o_headFits_33 rfl (z := (v3 + (1 : Int32))) rfl (L' := [.val (.ref 0), .val (.int v1), .val (.int v2), .val (.int (v3 + (1 : Int32))), .val (.int (R_needOf A v2 v3))]) rfl ?_
      refine Wk.goto o_headFits_36 ?_
      refine Wk.forget [false, false, false, false, true] (L' := [.val (.ref 0), .val (.int v1), .val (.int v2), .val (.int (v3 + (1 : Int32))), .unset]) rfl rfl ?_
      exact (h5 q1 q4)
    · refine Wk.iload o_headFits_20 rfl ?_
      refine Wk.aloadN o_headFits_22 rfl ?_
      refine Wk.iloadN o_headFits_23 rfl ?_
      refine Wk.iloadN o_headFits_24 rfl ?_
      refine Wk.callF [.int v1, .int v3] [.int (R_needOf A v2 v3)] (H.w 161 rfl) (cv_availableFor H) o_headFits_25 (run_availableFor H F G A B v1 v3 (s6 q1 q4)) (wt := 1) (cu' := 0) (su' := 0) (by decide) rfl rfl rfl rfl rfl rfl rfl ?_
      refine Wk.icmp_le o_headFits_28 (fun q7 => ?_) (fun q7 => ?_)
      · refine Wk.iinc o_headFits_33 rfl (z := (v3 + (1 : Int32))) rfl (L' := [.val (.ref 0), .val (.int v1), .val (.int v2), .val (.int (v3 + (1 : Int32))), .val (.int (R_needOf A v2 v3))]) rfl ?_
        refine Wk.goto o_headFits_36 ?_
        refine Wk.forget [false, false, false, false, true] (L' := [.val (.ref 0), .val (.int v1), .val (.int v2), .val (.int (v3 + (1 : Int32))), .unset]) rfl rfl ?_
        exact (h8 q1 q4 q7)
      · refine Wk.iconst o_headFits_31 (z := (0 : Int32)) (by decide) ?_
        exact Wk.zreturn mrC rfl o_headFits_32 rfl (by decide) (by decide) (y := (0 : Int32)) (by decide) (h9 q1 q4 q7)

theorem rt_headFits (F : Nat → Int32) (G : Nat → Int64) (A : Nat → Int32 → Int32) (B : Nat → Int32 → Int64) (v0 : Int32) (r : Int32) (e : v0 = r) : some (Value.int v0) = some (.int r) ∧ (15, F, G, A, B) = (15, F, G, A, B) := by subst e; exact ⟨rfl, rfl⟩
def lp_headFits : Nat → Nat → Int32 → Int32 → Int32 → (Nat → Int32) → (Nat → Int32 → Int32) → Option (Int32)
  | 0, _, _, _, _, _, _ => none
  | n + 1, tag, v1, v2, v3, F, A => if tag = 2 then (if v3 < (3 : Int32) then (if ((en_needOf A v2 v3).isSome = true) then (if (R_needOf A v2 v3) = 0 then lp_headFits n 2 v1 v2 (v3 + (1 : Int32)) F A else (if ((en_availableFor F A v1 v3).isSome = true) then (if (R_availableFor F A v1 v3) < (R_needOf A v2 v3) then some ((0 : Int32)) else lp_headFits n 2 v1 v2 (v3 + (1 : Int32)) F A) else none)) else none) else some ((1 : Int32))) else none
theorem lp_headFits_z (tag : Nat) (v1 : Int32) (v2 : Int32) (v3 : Int32) (F : Nat → Int32) (A : Nat → Int32 → Int32) : lp_headFits 0 tag v1 v2 v3 F A = none := Eq.trans rfl rfl
theorem lp_headFits_2 (n : Nat) (v1 : Int32) (v2 : Int32) (v3 : Int32) (F : Nat → Int32) (A : Nat → Int32 → Int32) : lp_headFits (n + 1) 2 v1 v2 v3 F A = (if v3 < (3 : Int32) then (if ((en_needOf A v2 v3).isSome = true) then (if (R_needOf A v2 v3) = 0 then lp_headFits n 2 v1 v2 (v3 + (1 : Int32)) F A else (if ((en_availableFor F A v1 v3).isSome = true) then (if (R_availableFor F A v1 v3) < (R_needOf A v2 v3) then some ((0 : Int32)) else lp_headFits n 2 v1 v2 (v3 + (1 : Int32)) F A) else none)) else none) else some ((1 : Int32))) := by
  rw [lp_headFits, if_pos rfl]
set_option maxRecDepth 65536 in
set_option maxHeartbeats 4000000 in
theorem lpw_headFits {l : Launch} {Z : State} {a0 : Array Value} (H : OK Z a0) (F : Nat → Int32) (G : Nat → Int64) (A : Nat → Int32 → Int32) (B : Nat → Int32 → Int64) : ∀ (n : Nat) (v1 : Int32) (v2 : Int32) (v3 : Int32) (r : Int32), (lp_headFits n 2 v1 v2 v3 F A = some r → Wk l Z (MoC Z cdC) md_headFits 2 [.val (.ref 0), .val (.int v1), .val (.int v2), .val (.int v3), .unset] [] (15, F, G, A, B) 0 0 (fun v w' => v = some (.int r) ∧ w' = (15, F, G, A, B))) := by
  intro n
  induction n with
  | zero =>
    intro v1 v2 v3  r
    exact (fun h => by rw [lp_headFits_z] at h; cases h)
  | succ n ih =>
    intro v1 v2 v3  r
    refine fun h => ?_
    · rw [lp_headFits_2] at h
      exact wp_headFits_2 H F G A B v1 v2 v3 (fun q1 => (rt_headFits _ _ _ _ _ r (Option.some.inj (ifn q1 h)))) (fun q1 => (gd (ifp q1 h)).1) (fun q1 q4 => (ih _ _ _ _) (ifp q4 (gd (ifp q1 h)).2)) (fun q1 q4 => (gd (ifn q4 (gd (ifp q1 h)).2)).1) (fun q1 q4 q7 => (ih _ _ _ _) (ifn q7 (gd (ifn q4 (gd (ifp q1 h)).2)).2)) (fun q1 q4 q7 => (rt_headFits _ _ _ _ _ r (Option.some.inj (ifp q7 (gd (ifn q4 (gd (ifp q1 h)).2)).2))))
def en_headFits (F : Nat → Int32) (A : Nat → Int32 → Int32) (p1 : Int32) (p2 : Int32) : Option (Int32) := lp_headFits 1000 2 p1 p2 (0 : Int32) F A
theorem een_headFits (F : Nat → Int32) (A : Nat → Int32 → Int32) (p1 : Int32) (p2 : Int32) : en_headFits F A p1 p2 = lp_headFits 1000 2 p1 p2 (0 : Int32) F A := Eq.trans rfl rfl
def R_headFits (F : Nat → Int32) (A : Nat → Int32 → Int32) (p1 : Int32) (p2 : Int32) : Int32 := (en_headFits F A p1 p2).getD (0)
theorem eR_headFits (F : Nat → Int32) (A : Nat → Int32 → Int32) (p1 : Int32) (p2 : Int32) : R_headFits F A p1 p2 = (en_headFits F A p1 p2).getD (0) := Eq.trans rfl rfl
set_option maxRecDepth 65536 in
set_option maxHeartbeats 4000000 in
theorem run_headFits {l : Launch} {Z : State} {a0 : Array Value} (H : OK Z a0) (F : Nat → Int32) (G : Nat → Int64) (A : Nat → Int32 → Int32) (B : Nat → Int32 → Int64) (p1 : Int32) (p2 : Int32) (e1 : (en_headFits F A p1 p2).isSome = true) :
    Wk l Z (MoC Z cdC) md_headFits 0 [.val (.ref 0), .val (.int p1), .val (.int p2), .unset, .unset] [] (15, F, G, A, B) 0 0 (fun v w' => v = some (.int (R_headFits F A p1 p2)) ∧ w' = (15, F, G, A, B)) := by
  obtain ⟨r, h⟩ := Option.isSome_iff_exists.mp e1
  have e : R_headFits F A p1 p2 = r := (eR_headFits F A p1 p2).trans (getD_some h)
  rw [e]
  rw [een_headFits] at h
  exact wp_headFits H F G A B p1 p2 ((lpw_headFits H F G A B _ _ _ _ _) h)
set_option maxRecDepth 65536 in
set_option maxHeartbeats 4000000 in
theorem wp_fitsUser {l : Launch} {Z : State} {a0 : Array Value} (H : OK Z a0) (F : Nat → Int32) (G : Nat → Int64) (A : Nat → Int32 → Int32) (B : Nat → Int32 → Int64) (p1 : Int32) {Q : Option Value → WO → Prop} (s1 : (en_isActive A p1).isSome = true) (s3 : ¬ (R_isActive A p1) = 0 → ¬ p1 < 0) (s4 : ¬ (R_isActive A p1) = 0 → p1 < (8 : Int32)) (s6 : ¬ (R_isActive A p1) = 0 → ¬ (f_isTask ((A 7) p1)) = 0 → (en_headFits F A p1 ((A 7) p1)).isSome = true) (h7 : ¬ (R_isActive A p1) = 0 → ¬ (f_isTask ((A 7) p1)) = 0 → Q (some (.int (nar .boolean (R_headFits F A p1 ((A 7) p1))))) (15, F, G, A, B)) (h8 : ¬ (R_isActive A p1) = 0 → (f_isTask ((A 7) p1)) = 0 → Q (some (.int (0 : Int32))) (15, F, G, A, B)) (h9 : (R_isActive A p1) = 0 → Q (some (.int (0 : Int32))) (15, F, G, A, B)) :
    Wk l Z (MoC Z cdC) md_fitsUser 0 [.val (.ref 0), .val (.int p1), .unset] [] (15, F, G, A, B) 0 0 Q := by
  refine Wk.aloadN o_fitsUser_0 rfl ?_
  refine Wk.iloadN o_fitsUser_1 rfl ?_
  refine Wk.callF [.int p1] [] (H.w 120 rfl) (cv_isActive H) o_fitsUser_2 (run_isActive H F G A B p1 s1) (wt := 0) (cu' := 0) (su' := 0) (by decide) rfl rfl rfl rfl rfl rfl rfl ?_
  refine Wk.if_ne o_fitsUser_5 (fun q2 => ?_) (fun q2 => ?_)
  · refine Wk.aloadN o_fitsUser_10 rfl ?_
    refine Wk.getA (mA_headSlot) (by decide) (i' := 8) rfl (wf_headSlot H) o_fitsUser_11 ?_
    refine Wk.iloadN o_fitsUser_14 rfl ?_
    refine Wk.iaload (mA_headSlot) (by decide) (i' := 8) rfl (s3 q2) (s4 q2) o_fitsUser_15 (y := ((A 7) p1)) rfl ?_
    refine Wk.istoreN o_fitsUser_16 (Or.inl rfl) (L' := [.val (.ref 0), .val (.int p1), .val (.int ((A 7) p1))]) rfl ?_
    refine Wk.aloadN o_fitsUser_17 rfl ?_
    refine Wk.iloadN o_fitsUser_18 rfl ?_
    refine Wk.callF [.int ((A 7) p1)] [] (H.w 124 rfl) (cv_isTask H) o_fitsUser_19 (run_isTask H F G A B ((A 7) p1)) (wt := 0) (cu' := 0) (su' := 0) (by decide) rfl rfl rfl rfl rfl rfl rfl ?_
    refine Wk.if_ne o_fitsUser_22 (fun q5 => ?_) (fun q5 => ?_)
    · refine Wk.aloadN o_fitsUser_27 rfl ?_
      refine Wk.iloadN o_fitsUser_28 rfl ?_
      refine Wk.iloadN o_fitsUser_29 rfl ?_
      refine Wk.callF [.int p1, .int ((A 7) p1)] [] (H.w 153 rfl) (cv_headFits H) o_fitsUser_30 (run_headFits H F G A B p1 ((A 7) p1) (s6 q2 q5)) (wt := 0) (cu' := 0) (su' := 0) (by decide) rfl rfl rfl rfl rfl rfl rfl ?_
      exact Wk.zreturn mrC rfl o_fitsUser_33 rfl (by decide) (by decide) (y := (nar .boolean (R_headFits F A p1 ((A 7) p1)))) rfl (h7 q2 q5)
    · refine Wk.iconst o_fitsUser_25 (z := (0 : Int32)) (by decide) ?_
      exact Wk.zreturn mrC rfl o_fitsUser_26 rfl (by decide) (by decide) (y := (0 : Int32)) (by decide) (h8 q2 q5)
  · refine Wk.iconst o_fitsUser_8 (z := (0 : Int32)) (by decide) ?_
    exact Wk.zreturn mrC rfl o_fitsUser_9 rfl (by decide) (by decide) (y := (0 : Int32)) (by decide) (h9 q2)

theorem rt_fitsUser (F : Nat → Int32) (G : Nat → Int64) (A : Nat → Int32 → Int32) (B : Nat → Int32 → Int64) (v0 : Int32) (r : Int32) (e : v0 = r) : some (Value.int v0) = some (.int r) ∧ (15, F, G, A, B) = (15, F, G, A, B) := by subst e; exact ⟨rfl, rfl⟩
def en_fitsUser (F : Nat → Int32) (A : Nat → Int32 → Int32) (p1 : Int32) : Option (Int32) := (if ((en_isActive A p1).isSome = true) then (if (R_isActive A p1) = 0 then some ((0 : Int32)) else (if (¬ p1 < 0) ∧ (p1 < (8 : Int32)) then (if (f_isTask ((A 7) p1)) = 0 then some ((0 : Int32)) else (if ((en_headFits F A p1 ((A 7) p1)).isSome = true) then some ((nar .boolean (R_headFits F A p1 ((A 7) p1)))) else none)) else none)) else none)
theorem een_fitsUser (F : Nat → Int32) (A : Nat → Int32 → Int32) (p1 : Int32) : en_fitsUser F A p1 = (if ((en_isActive A p1).isSome = true) then (if (R_isActive A p1) = 0 then some ((0 : Int32)) else (if (¬ p1 < 0) ∧ (p1 < (8 : Int32)) then (if (f_isTask ((A 7) p1)) = 0 then some ((0 : Int32)) else (if ((en_headFits F A p1 ((A 7) p1)).isSome = true) then some ((nar .boolean (R_headFits F A p1 ((A 7) p1)))) else none)) else none)) else none) := Eq.trans rfl rfl
def R_fitsUser (F : Nat → Int32) (A : Nat → Int32 → Int32) (p1 : Int32) : Int32 := (en_fitsUser F A p1).getD (0)
theorem eR_fitsUser (F : Nat → Int32) (A : Nat → Int32 → Int32) (p1 : Int32) : R_fitsUser F A p1 = (en_fitsUser F A p1).getD (0) := Eq.trans rfl rfl
set_option maxRecDepth 65536 in
set_option maxHeartbeats 4000000 in
theorem run_fitsUser {l : Launch} {Z : State} {a0 : Array Value} (H : OK Z a0) (F : Nat → Int32) (G : Nat → Int64) (A : Nat → Int32 → Int32) (B : Nat → Int32 → Int64) (p1 : Int32) (e1 : (en_fitsUser F A p1).isSome = true) :
    Wk l Z (MoC Z cdC) md_fitsUser 0 [.val (.ref 0), .val (.int p1), .unset] [] (15, F, G, A, B) 0 0 (fun v w' => v = some (.int (R_fitsUser F A p1)) ∧ w' = (15, F, G, A, B)) := by
  obtain ⟨r, h⟩ := Option.isSome_iff_exists.mp e1
  have e : R_fitsUser F A p1 = r := (eR_fitsUser F A p1).trans (getD_some h)
  rw [e]
  rw [een_fitsUser] at h
  exact wp_fitsUser H F G A B p1 ((gd h).1) (fun q2 => (gd (ifn q2 (gd h).2)).1.1) (fun q2 => (gd (ifn q2 (gd h).2)).1.2) (fun q2 q5 => (gd (ifn q5 (gd (ifn q2 (gd h).2)).2)).1) (fun q2 q5 => (rt_fitsUser _ _ _ _ _ r (Option.some.inj (gd (ifn q5 (gd (ifn q2 (gd h).2)).2)).2))) (fun q2 q5 => (rt_fitsUser _ _ _ _ _ r (Option.some.inj (ifp q5 (gd (ifn q2 (gd h).2)).2)))) (fun q2 => (rt_fitsUser _ _ _ _ _ r (Option.some.inj (ifp q2 (gd h).2))))
set_option maxRecDepth 65536 in
set_option maxHeartbeats 4000000 in
theorem wp_bestFittingUser {l : Launch} {Z : State} {a0 : Array Value} (H : OK Z a0) (F : Nat → Int32) (G : Nat → Int64) (A : Nat → Int32 → Int32) (B : Nat → Int32 → Int64) {Q : Option Value → WO → Prop} (h1 : Wk l Z (MoC Z cdC) md_bestFittingUser 4 [.val (.ref 0), .val (.int (-1 : Int32)), .val (.int (0 : Int32))] [] (15, F, G, A, B) 0 0 Q) :
    Wk l Z (MoC Z cdC) md_bestFittingUser 0 [.val (.ref 0), .unset, .unset] [] (15, F, G, A, B) 0 0 Q := by
  refine Wk.iconst o_bestFittingUser_0 (z := (-1 : Int32)) (by decide) ?_
  refine Wk.istoreN o_bestFittingUser_1 (Or.inl rfl) (L' := [.val (.ref 0), .val (.int (-1 : Int32)), .unset]) rfl ?_
  refine Wk.iconst o_bestFittingUser_2 (z := (0 : Int32)) (by decide) ?_
  refine Wk.istoreN o_bestFittingUser_3 (Or.inl rfl) (L' := [.val (.ref 0), .val (.int (-1 : Int32)), .val (.int (0 : Int32))]) rfl ?_
  exact h1

set_option maxRecDepth 65536 in
set_option maxHeartbeats 4000000 in
theorem wp_bestFittingUser_4 {l : Launch} {Z : State} {a0 : Array Value} (H : OK Z a0) (F : Nat → Int32) (G : Nat → Int64) (A : Nat → Int32 → Int32) (B : Nat → Int32 → Int64) (v1 : Int32) (v2 : Int32) {Q : Option Value → WO → Prop} (h2 : ¬ v2 < (F 0) → Q (some (.int v1)) (15, F, G, A, B)) (s3 : v2 < (F 0) → (en_fitsUser F A v2).isSome = true) (s6 : v2 < (F 0) → ¬ (R_fitsUser F A v2) = 0 → ¬ v1 < 0 → (en_compareUsers A v2 v1).isSome = true) (h11 : v2 < (F 0) → Wk l Z (MoC Z cdC) md_bestFittingUser 4 [.val (.ref 0), .val (.int (if (R_fitsUser F A v2) = 0 then v1 else (if v1 < 0 then v2 else (if (R_compareUsers A v2 v1) < 0 then v2 else v1)))), .val (.int (v2 + (1 : Int32)))] [] (15, F, G, A, B) 0 0 Q) :
    Wk l Z (MoC Z cdC) md_bestFittingUser 4 [.val (.ref 0), .val (.int v1), .val (.int v2)] [] (15, F, G, A, B) 0 0 Q := by
  refine Wk.iloadN o_bestFittingUser_4 rfl ?_
  refine Wk.aloadN o_bestFittingUser_5 rfl ?_
  refine Wk.getI (mI_userCount) (wf_userCount H) o_bestFittingUser_6 (x := (F 0)) rfl ?_
  refine Wk.icmp_ge o_bestFittingUser_9 (fun q1 => ?_) (fun q1 => ?_)
  · refine Wk.iloadN o_bestFittingUser_44 rfl ?_
    exact Wk.ireturn mrC rfl o_bestFittingUser_45 rfl (by decide) (by decide) (h2 q1)
  · refine Wk.aloadN o_bestFittingUser_12 rfl ?_
    refine Wk.iloadN o_bestFittingUser_13 rfl ?_
    refine Wk.callF [.int v2] [] (H.w 149 rfl) (cv_fitsUser H) o_bestFittingUser_14 (run_fitsUser H F G A B v2 (s3 q1)) (wt := 0) (cu' := 0) (su' := 0) (by decide) rfl rfl rfl rfl rfl rfl rfl ?_
    have J10 : Wk l Z (MoC Z cdC) md_bestFittingUser 38 [.val (.ref 0), .val (.int (if (R_fitsUser F A v2) = 0 then v1 else (if v1 < 0 then v2 else (if (R_compareUsers A v2 v1) < 0 then v2 else v1)))), .val (.int v2)] [] (15, F, G, A, B) 0 0 Q := by
      refine Wk.iinc o_bestFittingUser_38 rfl (z := (v2 + (1 : Int32))) rfl (L' := [.val (.ref 0), .val (.int (if (R_fitsUser F A v2) = 0 then v1 else (if v1 < 0 then v2 else (if (R_compareUsers A v2 v1) < 0 then v2 else v1)))), .val (.int (v2 + (1 : Int32)))]) rfl ?_
      refine Wk.goto o_bestFittingUser_41 ?_
      exact (h11 q1)
    refine Wk.if_ne o_bestFittingUser_17 (fun q4 => ?_) (fun q4 => ?_)
    · refine Wk.iloadN o_bestFittingUser_23 rfl ?_
      refine Wk.if_lt o_bestFittingUser_24 (fun q5 => ?_) (fun q5 => ?_)
      · refine Wk.iloadN o_bestFittingUser_36 rfl ?_
        refine Wk.istoreN o_bestFittingUser_37 (Or.inr ⟨_, rfl, rfl⟩) (L' := [.val (.ref 0), .val (.int v2), .val (.int v2)]) rfl ?_
        first | (rw [show ((if (R_fitsUser F A v2) = 0 then v1 else (if v1 < 0 then v2 else (if (R_compareUsers A v2 v1) < 0 then v2 else v1))) : Int32) = v2 from Eq.trans (if_neg q4) <| if_pos q5] at J10; exact J10) | exact J10 | (simp only [if_neg q4, if_pos q5] at J10 ⊢; exact J10)
      · refine Wk.aloadN o_bestFittingUser_27 rfl ?_
        refine Wk.iloadN o_bestFittingUser_28 rfl ?_
        refine Wk.iloadN o_bestFittingUser_29 rfl ?_
        refine Wk.callF [.int v2, .int v1] [] (H.w 128 rfl) (cv_compareUsers H) o_bestFittingUser_30 (run_compareUsers H F G A B v2 v1 (s6 q1 q4 q5)) (wt := 0) (cu' := 0) (su' := 0) (by decide) rfl rfl rfl rfl rfl rfl rfl ?_
        refine Wk.if_ge o_bestFittingUser_33 (fun q7 => ?_) (fun q7 => ?_)
        · first | (rw [show ((if (R_fitsUser F A v2) = 0 then v1 else (if v1 < 0 then v2 else (if (R_compareUsers A v2 v1) < 0 then v2 else v1))) : Int32) = v1 from Eq.trans (if_neg q4) <| Eq.trans (if_neg q5) <| if_neg q7] at J10; exact J10) | exact J10 | (simp only [if_neg q4, if_neg q5, if_neg q7] at J10 ⊢; exact J10)
        · refine Wk.iloadN o_bestFittingUser_36 rfl ?_
          refine Wk.istoreN o_bestFittingUser_37 (Or.inr ⟨_, rfl, rfl⟩) (L' := [.val (.ref 0), .val (.int v2), .val (.int v2)]) rfl ?_
          first | (rw [show ((if (R_fitsUser F A v2) = 0 then v1 else (if v1 < 0 then v2 else (if (R_compareUsers A v2 v1) < 0 then v2 else v1))) : Int32) = v2 from Eq.trans (if_neg q4) <| Eq.trans (if_neg q5) <| if_pos q7] at J10; exact J10) | exact J10 | (simp only [if_neg q4, if_neg q5, if_pos q7] at J10 ⊢; exact J10)
    · refine Wk.goto o_bestFittingUser_20 ?_
      first | (rw [show ((if (R_fitsUser F A v2) = 0 then v1 else (if v1 < 0 then v2 else (if (R_compareUsers A v2 v1) < 0 then v2 else v1))) : Int32) = v1 from if_pos q4] at J10; exact J10) | exact J10 | (simp only [if_pos q4] at J10 ⊢; exact J10)

theorem rt_bestFittingUser (F : Nat → Int32) (G : Nat → Int64) (A : Nat → Int32 → Int32) (B : Nat → Int32 → Int64) (v0 : Int32) (r : Int32) (e : v0 = r) : some (Value.int v0) = some (.int r) ∧ (15, F, G, A, B) = (15, F, G, A, B) := by subst e; exact ⟨rfl, rfl⟩
def lp_bestFittingUser : Nat → Nat → Int32 → Int32 → (Nat → Int32) → (Nat → Int32 → Int32) → Option (Int32)
  | 0, _, _, _, _, _ => none
  | n + 1, tag, v1, v2, F, A => if tag = 4 then (if v2 < (F 0) then (if ((en_fitsUser F A v2).isSome = true) ∧ (¬ (R_fitsUser F A v2) = 0 → ¬ v1 < 0 → (en_compareUsers A v2 v1).isSome = true) then lp_bestFittingUser n 4 (if (R_fitsUser F A v2) = 0 then v1 else (if v1 < 0 then v2 else (if (R_compareUsers A v2 v1) < 0 then v2 else v1))) (v2 + (1 : Int32)) F A else none) else some (v1)) else none
theorem lp_bestFittingUser_z (tag : Nat) (v1 : Int32) (v2 : Int32) (F : Nat → Int32) (A : Nat → Int32 → Int32) : lp_bestFittingUser 0 tag v1 v2 F A = none := Eq.trans rfl rfl
theorem lp_bestFittingUser_4 (n : Nat) (v1 : Int32) (v2 : Int32) (F : Nat → Int32) (A : Nat → Int32 → Int32) : lp_bestFittingUser (n + 1) 4 v1 v2 F A = (if v2 < (F 0) then (if ((en_fitsUser F A v2).isSome = true) ∧ (¬ (R_fitsUser F A v2) = 0 → ¬ v1 < 0 → (en_compareUsers A v2 v1).isSome = true) then lp_bestFittingUser n 4 (if (R_fitsUser F A v2) = 0 then v1 else (if v1 < 0 then v2 else (if (R_compareUsers A v2 v1) < 0 then v2 else v1))) (v2 + (1 : Int32)) F A else none) else some (v1)) := by
  rw [lp_bestFittingUser, if_pos rfl]
set_option maxRecDepth 65536 in
set_option maxHeartbeats 4000000 in
theorem lpw_bestFittingUser {l : Launch} {Z : State} {a0 : Array Value} (H : OK Z a0) (F : Nat → Int32) (G : Nat → Int64) (A : Nat → Int32 → Int32) (B : Nat → Int32 → Int64) : ∀ (n : Nat) (v1 : Int32) (v2 : Int32) (r : Int32), (lp_bestFittingUser n 4 v1 v2 F A = some r → Wk l Z (MoC Z cdC) md_bestFittingUser 4 [.val (.ref 0), .val (.int v1), .val (.int v2)] [] (15, F, G, A, B) 0 0 (fun v w' => v = some (.int r) ∧ w' = (15, F, G, A, B))) := by
  intro n
  induction n with
  | zero =>
    intro v1 v2  r
    exact (fun h => by rw [lp_bestFittingUser_z] at h; cases h)
  | succ n ih =>
    intro v1 v2  r
    refine fun h => ?_
    · rw [lp_bestFittingUser_4] at h
      exact wp_bestFittingUser_4 H F G A B v1 v2 (fun q1 => (rt_bestFittingUser _ _ _ _ _ r (Option.some.inj (ifn q1 h)))) (fun q1 => (gd (ifp q1 h)).1.1) (fun q1 q4 q5 => ((gd (ifp q1 h)).1.2) q4 q5) (fun q1 => (ih _ _ _) (gd (ifp q1 h)).2)
def en_bestFittingUser (F : Nat → Int32) (A : Nat → Int32 → Int32) : Option (Int32) := lp_bestFittingUser 1000 4 (-1 : Int32) (0 : Int32) F A
theorem een_bestFittingUser (F : Nat → Int32) (A : Nat → Int32 → Int32) : en_bestFittingUser F A  = lp_bestFittingUser 1000 4 (-1 : Int32) (0 : Int32) F A := Eq.trans rfl rfl
def R_bestFittingUser (F : Nat → Int32) (A : Nat → Int32 → Int32) : Int32 := (en_bestFittingUser F A ).getD (0)
theorem eR_bestFittingUser (F : Nat → Int32) (A : Nat → Int32 → Int32) : R_bestFittingUser F A  = (en_bestFittingUser F A ).getD (0) := Eq.trans rfl rfl
set_option maxRecDepth 65536 in
set_option maxHeartbeats 4000000 in
theorem run_bestFittingUser {l : Launch} {Z : State} {a0 : Array Value} (H : OK Z a0) (F : Nat → Int32) (G : Nat → Int64) (A : Nat → Int32 → Int32) (B : Nat → Int32 → Int64) (e1 : (en_bestFittingUser F A ).isSome = true) :
    Wk l Z (MoC Z cdC) md_bestFittingUser 0 [.val (.ref 0), .unset, .unset] [] (15, F, G, A, B) 0 0 (fun v w' => v = some (.int (R_bestFittingUser F A )) ∧ w' = (15, F, G, A, B)) := by
  obtain ⟨r, h⟩ := Option.isSome_iff_exists.mp e1
  have e : R_bestFittingUser F A  = r := (eR_bestFittingUser F A ).trans (getD_some h)
  rw [e]
  rw [een_bestFittingUser] at h
  exact wp_bestFittingUser H F G A B  ((lpw_bestFittingUser H F G A B _ _ _ _) h)
set_option maxRecDepth 65536 in
set_option maxHeartbeats 4000000 in
theorem wp_addNeed {l : Launch} {Z : State} {a0 : Array Value} (H : OK Z a0) (F : Nat → Int32) (G : Nat → Int64) (A : Nat → Int32 → Int32) (B : Nat → Int32 → Int64) (p1 : Int32) (p2 : Int32) {Q : Option Value → WO → Prop} (h1 : Wk l Z (MoC Z cdC) md_addNeed 2 [.val (.ref 0), .val (.int p1), .val (.int p2), .val (.int (0 : Int32)), .unset] [] (15, F, G, A, B) 0 0 Q) :
    Wk l Z (MoC Z cdC) md_addNeed 0 [.val (.ref 0), .val (.int p1), .val (.int p2), .unset, .unset] [] (15, F, G, A, B) 0 0 Q := by
  refine Wk.iconst o_addNeed_0 (z := (0 : Int32)) (by decide) ?_
  refine Wk.istoreN o_addNeed_1 (Or.inl rfl) (L' := [.val (.ref 0), .val (.int p1), .val (.int p2), .val (.int (0 : Int32)), .unset]) rfl ?_
  exact h1

set_option maxRecDepth 65536 in
set_option maxHeartbeats 4000000 in
theorem wp_addNeed_2 {l : Launch} {Z : State} {a0 : Array Value} (H : OK Z a0) (F : Nat → Int32) (G : Nat → Int64) (A : Nat → Int32 → Int32) (B : Nat → Int32 → Int64) (v1 : Int32) (v2 : Int32) (v3 : Int32) {Q : Option Value → WO → Prop} (h2 : ¬ v3 < (3 : Int32) → Q none (15, F, G, A, B)) (s3 : v3 < (3 : Int32) → (en_needOf A v2 v3).isSome = true) (s4 : v3 < (3 : Int32) → ¬ (f_allocIndex v1 v3) < 0) (s5 : v3 < (3 : Int32) → (f_allocIndex v1 v3) < (24 : Int32)) (s6 : v3 < (3 : Int32) → ¬ v3 < 0) (h7 : v3 < (3 : Int32) → Wk l Z (MoC Z cdC) md_addNeed 2 [.val (.ref 0), .val (.int v1), .val (.int v2), .val (.int (v3 + (1 : Int32))), .unset] [] (15, F, G, (ups (ups A 9 (ups (A 9) (f_allocIndex v1 v3) (((A 9) (f_allocIndex v1 v3)) + (R_needOf A v2 v3)))) 1 (ups (A 1) v3 (((A 1) v3) + (R_needOf A v2 v3)))), B) 0 0 Q) :
    Wk l Z (MoC Z cdC) md_addNeed 2 [.val (.ref 0), .val (.int v1), .val (.int v2), .val (.int v3), .unset] [] (15, F, G, A, B) 0 0 Q := by
  refine Wk.iloadN o_addNeed_2 rfl ?_
  refine Wk.iconst o_addNeed_3 (z := (3 : Int32)) (by decide) ?_
  refine Wk.icmp_ge o_addNeed_4 (fun q1 => ?_) (fun q1 => ?_)
  · exact Wk.ret mrC rfl o_addNeed_48 rfl (by decide) (by decide) (h2 q1)
  · refine Wk.aloadN o_addNeed_7 rfl ?_
    refine Wk.iloadN o_addNeed_8 rfl ?_
    refine Wk.iloadN o_addNeed_9 rfl ?_
    refine Wk.callF [.int v2, .int v3] [] (H.w 157 rfl) (cv_needOf H) o_addNeed_10 (run_needOf H F G A B v2 v3 (s3 q1)) (wt := 0) (cu' := 0) (su' := 0) (by decide) rfl rfl rfl rfl rfl rfl rfl ?_
    refine Wk.istore o_addNeed_13 (Or.inl rfl) (L' := [.val (.ref 0), .val (.int v1), .val (.int v2), .val (.int v3), .val (.int (R_needOf A v2 v3))]) rfl ?_
    refine Wk.aloadN o_addNeed_15 rfl ?_
    refine Wk.getA (mA_alloc) (by decide) (i' := 10) rfl (wf_alloc H) o_addNeed_16 ?_
    refine Wk.aloadN o_addNeed_19 rfl ?_
    refine Wk.iloadN o_addNeed_20 rfl ?_
    refine Wk.iloadN o_addNeed_21 rfl ?_
    refine Wk.callF [.int v1, .int v3] [.ref 10] (H.w 52 rfl) (cv_allocIndex H) o_addNeed_22 (run_allocIndex H F G A B v1 v3) (wt := 1) (cu' := 0) (su' := 0) (by decide) rfl rfl rfl rfl rfl rfl rfl ?_
    refine Wk.dup2 o_addNeed_25 rfl rfl ?_
    refine Wk.iaload (mA_alloc) (by decide) (i' := 10) rfl (s4 q1) (s5 q1) o_addNeed_26 (y := ((A 9) (f_allocIndex v1 v3))) rfl ?_
    refine Wk.iload o_addNeed_27 rfl ?_
    refine Wk.iadd o_addNeed_29 ?_
    refine Wk.iastore (coC H) (f := (A 9)) (mA_alloc) rfl (by decide) (i' := 10) rfl (s4 q1) (s5 q1) o_addNeed_30 ?_
    refine Wk.aloadN o_addNeed_31 rfl ?_
    refine Wk.getA (mA_usedRes) (by decide) (i' := 2) rfl (wf_usedRes H) o_addNeed_32 ?_
    refine Wk.iloadN o_addNeed_35 rfl ?_
    refine Wk.dup2 o_addNeed_36 rfl rfl ?_
    refine Wk.iaload (mA_usedRes) (by decide) (i' := 2) rfl (s6 q1) q1 o_addNeed_37 (y := ((A 1) v3)) rfl ?_
    refine Wk.iload o_addNeed_38 rfl ?_
    refine Wk.iadd o_addNeed_40 ?_
    refine Wk.iastore (coC H) (f := (A 1)) (mA_usedRes) rfl (by decide) (i' := 2) rfl (s6 q1) q1 o_addNeed_41 ?_
    refine Wk.iinc o_addNeed_42 rfl (z := (v3 + (1 : Int32))) rfl (L' := [.val (.ref 0), .val (.int v1), .val (.int v2), .val (.int (v3 + (1 : Int32))), .val (.int (R_needOf A v2 v3))]) rfl ?_
    refine Wk.goto o_addNeed_45 ?_
    refine Wk.forget [false, false, false, false, true] (L' := [.val (.ref 0), .val (.int v1), .val (.int v2), .val (.int (v3 + (1 : Int32))), .unset]) rfl rfl ?_
    exact (h7 q1)

theorem rt_addNeed (F : Nat → Int32) (G : Nat → Int64) (B : Nat → Int32 → Int64) (v0 : Int32) (xA : Nat → Int32 → Int32) (r : Int32 × (Nat → Int32 → Int32)) (e : (v0, xA) = r) : (none : Option Value) = none ∧ (15, F, G, xA, B) = (15, F, G, r.2, B) := by subst e; exact ⟨rfl, rfl⟩
def lp_addNeed : Nat → Nat → Int32 → Int32 → Int32 → (Nat → Int32 → Int32) → Option (Int32 × (Nat → Int32 → Int32))
  | 0, _, _, _, _, _ => none
  | n + 1, tag, v1, v2, v3, A => if tag = 2 then (if v3 < (3 : Int32) then (if ((en_needOf A v2 v3).isSome = true) ∧ (¬ (f_allocIndex v1 v3) < 0) ∧ ((f_allocIndex v1 v3) < (24 : Int32)) ∧ (¬ v3 < 0) then lp_addNeed n 2 v1 v2 (v3 + (1 : Int32)) (ups (ups A 9 (ups (A 9) (f_allocIndex v1 v3) (((A 9) (f_allocIndex v1 v3)) + (R_needOf A v2 v3)))) 1 (ups (A 1) v3 (((A 1) v3) + (R_needOf A v2 v3)))) else none) else some ((0 : Int32), A)) else none
theorem lp_addNeed_z (tag : Nat) (v1 : Int32) (v2 : Int32) (v3 : Int32) (A : Nat → Int32 → Int32) : lp_addNeed 0 tag v1 v2 v3 A = none := Eq.trans rfl rfl
theorem lp_addNeed_2 (n : Nat) (v1 : Int32) (v2 : Int32) (v3 : Int32) (A : Nat → Int32 → Int32) : lp_addNeed (n + 1) 2 v1 v2 v3 A = (if v3 < (3 : Int32) then (if ((en_needOf A v2 v3).isSome = true) ∧ (¬ (f_allocIndex v1 v3) < 0) ∧ ((f_allocIndex v1 v3) < (24 : Int32)) ∧ (¬ v3 < 0) then lp_addNeed n 2 v1 v2 (v3 + (1 : Int32)) (ups (ups A 9 (ups (A 9) (f_allocIndex v1 v3) (((A 9) (f_allocIndex v1 v3)) + (R_needOf A v2 v3)))) 1 (ups (A 1) v3 (((A 1) v3) + (R_needOf A v2 v3)))) else none) else some ((0 : Int32), A)) := by
  rw [lp_addNeed, if_pos rfl]
set_option maxRecDepth 65536 in
set_option maxHeartbeats 4000000 in
theorem lpw_addNeed {l : Launch} {Z : State} {a0 : Array Value} (H : OK Z a0) (F : Nat → Int32) (G : Nat → Int64) (B : Nat → Int32 → Int64) : ∀ (n : Nat) (v1 : Int32) (v2 : Int32) (v3 : Int32) (A : Nat → Int32 → Int32) (r : Int32 × (Nat → Int32 → Int32)), (lp_addNeed n 2 v1 v2 v3 A = some r → Wk l Z (MoC Z cdC) md_addNeed 2 [.val (.ref 0), .val (.int v1), .val (.int v2), .val (.int v3), .unset] [] (15, F, G, A, B) 0 0 (fun v w' => v = none ∧ w' = (15, F, G, r.2, B))) := by
  intro n
  induction n with
  | zero =>
    intro v1 v2 v3 A r
    exact (fun h => by rw [lp_addNeed_z] at h; cases h)
  | succ n ih =>
    intro v1 v2 v3 A r
    refine fun h => ?_
    · rw [lp_addNeed_2] at h
      exact wp_addNeed_2 H F G A B v1 v2 v3 (fun q1 => (rt_addNeed _ _ _ _ _ r (Option.some.inj (ifn q1 h)))) (fun q1 => (gd (ifp q1 h)).1.1) (fun q1 => (gd (ifp q1 h)).1.2.1) (fun q1 => (gd (ifp q1 h)).1.2.2.1) (fun q1 => (gd (ifp q1 h)).1.2.2.2) (fun q1 => (ih _ _ _ _ _) (gd (ifp q1 h)).2)
def en_addNeed (A : Nat → Int32 → Int32) (p1 : Int32) (p2 : Int32) : Option (Int32 × (Nat → Int32 → Int32)) := lp_addNeed 1000 2 p1 p2 (0 : Int32) A
theorem een_addNeed (A : Nat → Int32 → Int32) (p1 : Int32) (p2 : Int32) : en_addNeed A p1 p2 = lp_addNeed 1000 2 p1 p2 (0 : Int32) A := Eq.trans rfl rfl
def R_addNeed (A : Nat → Int32 → Int32) (p1 : Int32) (p2 : Int32) : Int32 × (Nat → Int32 → Int32) := (en_addNeed A p1 p2).getD (0, (fun _ _ => 0))
theorem eR_addNeed (A : Nat → Int32 → Int32) (p1 : Int32) (p2 : Int32) : R_addNeed A p1 p2 = (en_addNeed A p1 p2).getD (0, (fun _ _ => 0)) := Eq.trans rfl rfl
set_option maxRecDepth 65536 in
set_option maxHeartbeats 4000000 in
theorem run_addNeed {l : Launch} {Z : State} {a0 : Array Value} (H : OK Z a0) (F : Nat → Int32) (G : Nat → Int64) (A : Nat → Int32 → Int32) (B : Nat → Int32 → Int64) (p1 : Int32) (p2 : Int32) (e1 : (en_addNeed A p1 p2).isSome = true) :
    Wk l Z (MoC Z cdC) md_addNeed 0 [.val (.ref 0), .val (.int p1), .val (.int p2), .unset, .unset] [] (15, F, G, A, B) 0 0 (fun v w' => v = none ∧ w' = (15, F, G, (R_addNeed A p1 p2).2, B)) := by
  obtain ⟨r, h⟩ := Option.isSome_iff_exists.mp e1
  have e : R_addNeed A p1 p2 = r := (eR_addNeed A p1 p2).trans (getD_some h)
  rw [e]
  rw [een_addNeed] at h
  exact wp_addNeed H F G A B p1 p2 ((lpw_addNeed H F G B _ _ _ _ _ _) h)
set_option maxRecDepth 65536 in
set_option maxHeartbeats 4000000 in
theorem wp_recomputeHead {l : Launch} {Z : State} {a0 : Array Value} (H : OK Z a0) (F : Nat → Int32) (G : Nat → Int64) (A : Nat → Int32 → Int32) (B : Nat → Int32 → Int64) (p1 : Int32) {Q : Option Value → WO → Prop} (h2 : p1 < 0 → Q none (15, F, G, A, B)) (h4 : ¬ p1 < 0 → p1 < (8 : Int32) → Wk l Z (MoC Z cdC) md_recomputeHead 15 [.val (.ref 0), .val (.int p1), .val (.int (-1 : Int32)), .val (.int (0 : Int32))] [] (15, F, G, A, B) 0 0 Q) (h5 : ¬ p1 < 0 → ¬ p1 < (8 : Int32) → Q none (15, F, G, A, B)) :
    Wk l Z (MoC Z cdC) md_recomputeHead 0 [.val (.ref 0), .val (.int p1), .unset, .unset] [] (15, F, G, A, B) 0 0 Q := by
  refine Wk.iloadN o_recomputeHead_0 rfl ?_
  refine Wk.if_lt o_recomputeHead_1 (fun q1 => ?_) (fun q1 => ?_)
  · exact Wk.ret mrC rfl o_recomputeHead_10 rfl (by decide) (by decide) (h2 q1)
  · refine Wk.iloadN o_recomputeHead_4 rfl ?_
    refine Wk.bipush o_recomputeHead_5 (z := (8 : Int32)) (by decide) ?_
    refine Wk.icmp_lt o_recomputeHead_7 (fun q3 => ?_) (fun q3 => ?_)
    · refine Wk.iconst o_recomputeHead_11 (z := (-1 : Int32)) (by decide) ?_
      refine Wk.istoreN o_recomputeHead_12 (Or.inl rfl) (L' := [.val (.ref 0), .val (.int p1), .val (.int (-1 : Int32)), .unset]) rfl ?_
      refine Wk.iconst o_recomputeHead_13 (z := (0 : Int32)) (by decide) ?_
      refine Wk.istoreN o_recomputeHead_14 (Or.inl rfl) (L' := [.val (.ref 0), .val (.int p1), .val (.int (-1 : Int32)), .val (.int (0 : Int32))]) rfl ?_
      exact (h4 q1 q3)
    · exact Wk.ret mrC rfl o_recomputeHead_10 rfl (by decide) (by decide) (h5 q1 q3)

set_option maxRecDepth 65536 in
set_option maxHeartbeats 4000000 in
theorem wp_recomputeHead_15 {l : Launch} {Z : State} {a0 : Array Value} (H : OK Z a0) (F : Nat → Int32) (G : Nat → Int64) (A : Nat → Int32 → Int32) (B : Nat → Int32 → Int64) (v1 : Int32) (v2 : Int32) (v3 : Int32) {Q : Option Value → WO → Prop} (s2 : ¬ v3 < (32 : Int32) → ¬ v1 < 0) (s3 : ¬ v3 < (32 : Int32) → v1 < (8 : Int32)) (h4 : ¬ v3 < (32 : Int32) → Q none (15, F, G, (ups A 7 (ups (A 7) v1 v2)), B)) (s5 : v3 < (32 : Int32) → ¬ v3 < 0) (s7 : v3 < (32 : Int32) → ((A 10) v3) = (1 : Int32) → ¬ v3 < 0) (s10 : v3 < (32 : Int32) → ((A 10) v3) = (1 : Int32) → ((A 11) v3) = v1 → ¬ v2 < 0 → ¬ v3 < 0) (s11 : v3 < (32 : Int32) → ((A 10) v3) = (1 : Int32) → ((A 11) v3) = v1 → ¬ v2 < 0 → v2 < (32 : Int32)) (h17 : v3 < (32 : Int32) → Wk l Z (MoC Z cdC) md_recomputeHead 15 [.val (.ref 0), .val (.int v1), .val (.int (if ((A 10) v3) = (1 : Int32) then (if ((A 11) v3) = v1 then (if v2 < 0 then v3 else (if (XT.cmpL ((B 14) v3) ((B 14) v2)) < 0 then v3 else v2)) else v2) else v2)), .val (.int (v3 + (1 : Int32)))] [] (15, F, G, A, B) 0 0 Q) :
    Wk l Z (MoC Z cdC) md_recomputeHead 15 [.val (.ref 0), .val (.int v1), .val (.int v2), .val (.int v3)] [] (15, F, G, A, B) 0 0 Q := by
  refine Wk.iloadN o_recomputeHead_15 rfl ?_
  refine Wk.bipush o_recomputeHead_16 (z := (32 : Int32)) (by decide) ?_
  refine Wk.icmp_ge o_recomputeHead_18 (fun q1 => ?_) (fun q1 => ?_)
  · refine Wk.aloadN o_recomputeHead_72 rfl ?_
    refine Wk.getA (mA_headSlot) (by decide) (i' := 8) rfl (wf_headSlot H) o_recomputeHead_73 ?_
    refine Wk.iloadN o_recomputeHead_76 rfl ?_
    refine Wk.iloadN o_recomputeHead_77 rfl ?_
    refine Wk.iastore (coC H) (f := (A 7)) (mA_headSlot) rfl (by decide) (i' := 8) rfl (s2 q1) (s3 q1) o_recomputeHead_78 ?_
    exact Wk.ret mrC rfl o_recomputeHead_79 rfl (by decide) (by decide) (h4 q1)
  · refine Wk.aloadN o_recomputeHead_21 rfl ?_
    refine Wk.getA (mA_slotState) (by decide) (i' := 11) rfl (wf_slotState H) o_recomputeHead_22 ?_
    refine Wk.iloadN o_recomputeHead_25 rfl ?_
    refine Wk.iaload (mA_slotState) (by decide) (i' := 11) rfl (s5 q1) q1 o_recomputeHead_26 (y := ((A 10) v3)) rfl ?_
    refine Wk.iconst o_recomputeHead_27 (z := (1 : Int32)) (by decide) ?_
    have J16 : Wk l Z (MoC Z cdC) md_recomputeHead 66 [.val (.ref 0), .val (.int v1), .val (.int (if ((A 10) v3) = (1 : Int32) then (if ((A 11) v3) = v1 then (if v2 < 0 then v3 else (if (XT.cmpL ((B 14) v3) ((B 14) v2)) < 0 then v3 else v2)) else v2) else v2)), .val (.int v3)] [] (15, F, G, A, B) 0 0 Q := by
      refine Wk.iinc o_recomputeHead_66 rfl (z := (v3 + (1 : Int32))) rfl (L' := [.val (.ref 0), .val (.int v1), .val (.int (if ((A 10) v3) = (1 : Int32) then (if ((A 11) v3) = v1 then (if v2 < 0 then v3 else (if (XT.cmpL ((B 14) v3) ((B 14) v2)) < 0 then v3 else v2)) else v2) else v2)), .val (.int (v3 + (1 : Int32)))]) rfl ?_
      refine Wk.goto o_recomputeHead_69 ?_
      exact (h17 q1)
    refine Wk.icmp_ne o_recomputeHead_28 (fun q6 => ?_) (fun q6 => ?_)
    · first | (rw [show ((if ((A 10) v3) = (1 : Int32) then (if ((A 11) v3) = v1 then (if v2 < 0 then v3 else (if (XT.cmpL ((B 14) v3) ((B 14) v2)) < 0 then v3 else v2)) else v2) else v2) : Int32) = v2 from if_neg q6] at J16; exact J16) | exact J16 | (simp only [if_neg q6] at J16 ⊢; exact J16)
    · refine Wk.aloadN o_recomputeHead_31 rfl ?_
      refine Wk.getA (mA_slotUser) (by decide) (i' := 12) rfl (wf_slotUser H) o_recomputeHead_32 ?_
      refine Wk.iloadN o_recomputeHead_35 rfl ?_
      refine Wk.iaload (mA_slotUser) (by decide) (i' := 12) rfl (s7 q1 q6) q1 o_recomputeHead_36 (y := ((A 11) v3)) rfl ?_
      refine Wk.iloadN o_recomputeHead_37 rfl ?_
      refine Wk.icmp_eq o_recomputeHead_38 (fun q8 => ?_) (fun q8 => ?_)
      · refine Wk.iloadN o_recomputeHead_44 rfl ?_
        refine Wk.if_lt o_recomputeHead_45 (fun q9 => ?_) (fun q9 => ?_)
        · refine Wk.iloadN o_recomputeHead_64 rfl ?_
          refine Wk.istoreN o_recomputeHead_65 (Or.inr ⟨_, rfl, rfl⟩) (L' := [.val (.ref 0), .val (.int v1), .val (.int v3), .val (.int v3)]) rfl ?_
          first | (rw [show ((if ((A 10) v3) = (1 : Int32) then (if ((A 11) v3) = v1 then (if v2 < 0 then v3 else (if (XT.cmpL ((B 14) v3) ((B 14) v2)) < 0 then v3 else v2)) else v2) else v2) : Int32) = v3 from Eq.trans (if_pos q6) <| Eq.trans (if_pos q8) <| if_pos q9] at J16; exact J16) | exact J16 | (simp only [if_pos q6, if_pos q8, if_pos q9] at J16 ⊢; exact J16)
        · refine Wk.aloadN o_recomputeHead_48 rfl ?_
          refine Wk.getA (mA_slotSeq) (by decide) (i' := 15) rfl (wf_slotSeq H) o_recomputeHead_49 ?_
          refine Wk.iloadN o_recomputeHead_52 rfl ?_
          refine Wk.laload (mA_slotSeq) (by decide) (i' := 15) rfl (s10 q1 q6 q8 q9) q1 o_recomputeHead_53 (y := ((B 14) v3)) rfl ?_
          refine Wk.aloadN o_recomputeHead_54 rfl ?_
          refine Wk.getA (mA_slotSeq) (by decide) (i' := 15) rfl (wf_slotSeq H) o_recomputeHead_55 ?_
          refine Wk.iloadN o_recomputeHead_58 rfl ?_
          refine Wk.laload (mA_slotSeq) (by decide) (i' := 15) rfl q9 (s11 q1 q6 q8 q9) o_recomputeHead_59 (y := ((B 14) v2)) rfl ?_
          refine Wk.lcmp o_recomputeHead_60 ?_
          refine Wk.if_ge o_recomputeHead_61 (fun q12 => ?_) (fun q12 => ?_)
          · first | (rw [show ((if ((A 10) v3) = (1 : Int32) then (if ((A 11) v3) = v1 then (if v2 < 0 then v3 else (if (XT.cmpL ((B 14) v3) ((B 14) v2)) < 0 then v3 else v2)) else v2) else v2) : Int32) = v2 from Eq.trans (if_pos q6) <| Eq.trans (if_pos q8) <| Eq.trans (if_neg q9) <| if_neg q12] at J16; exact J16) | exact J16 | (simp only [if_pos q6, if_pos q8, if_neg q9, if_neg q12] at J16 ⊢; exact J16)
          · refine Wk.iloadN o_recomputeHead_64 rfl ?_
            refine Wk.istoreN o_recomputeHead_65 (Or.inr ⟨_, rfl, rfl⟩) (L' := [.val (.ref 0), .val (.int v1), .val (.int v3), .val (.int v3)]) rfl ?_
            first | (rw [show ((if ((A 10) v3) = (1 : Int32) then (if ((A 11) v3) = v1 then (if v2 < 0 then v3 else (if (XT.cmpL ((B 14) v3) ((B 14) v2)) < 0 then v3 else v2)) else v2) else v2) : Int32) = v3 from Eq.trans (if_pos q6) <| Eq.trans (if_pos q8) <| Eq.trans (if_neg q9) <| if_pos q12] at J16; exact J16) | exact J16 | (simp only [if_pos q6, if_pos q8, if_neg q9, if_pos q12] at J16 ⊢; exact J16)
      · refine Wk.goto o_recomputeHead_41 ?_
        first | (rw [show ((if ((A 10) v3) = (1 : Int32) then (if ((A 11) v3) = v1 then (if v2 < 0 then v3 else (if (XT.cmpL ((B 14) v3) ((B 14) v2)) < 0 then v3 else v2)) else v2) else v2) : Int32) = v2 from Eq.trans (if_pos q6) <| if_neg q8] at J16; exact J16) | exact J16 | (simp only [if_pos q6, if_neg q8] at J16 ⊢; exact J16)

theorem rt_recomputeHead (F : Nat → Int32) (G : Nat → Int64) (B : Nat → Int32 → Int64) (v0 : Int32) (xA : Nat → Int32 → Int32) (r : Int32 × (Nat → Int32 → Int32)) (e : (v0, xA) = r) : (none : Option Value) = none ∧ (15, F, G, xA, B) = (15, F, G, r.2, B) := by subst e; exact ⟨rfl, rfl⟩
def lp_recomputeHead : Nat → Nat → Int32 → Int32 → Int32 → (Nat → Int32 → Int32) → (Nat → Int32 → Int64) → Option (Int32 × (Nat → Int32 → Int32))
  | 0, _, _, _, _, _, _ => none
  | n + 1, tag, v1, v2, v3, A, B => if tag = 15 then (if v3 < (32 : Int32) then (if (¬ v3 < 0) ∧ (((A 10) v3) = (1 : Int32) → ¬ v3 < 0) ∧ (((A 10) v3) = (1 : Int32) → ((A 11) v3) = v1 → ¬ v2 < 0 → ¬ v3 < 0) ∧ (((A 10) v3) = (1 : Int32) → ((A 11) v3) = v1 → ¬ v2 < 0 → v2 < (32 : Int32)) then lp_recomputeHead n 15 v1 (if ((A 10) v3) = (1 : Int32) then (if ((A 11) v3) = v1 then (if v2 < 0 then v3 else (if (XT.cmpL ((B 14) v3) ((B 14) v2)) < 0 then v3 else v2)) else v2) else v2) (v3 + (1 : Int32)) A B else none) else (if (¬ v1 < 0) ∧ (v1 < (8 : Int32)) then some ((0 : Int32), (ups A 7 (ups (A 7) v1 v2))) else none)) else none
theorem lp_recomputeHead_z (tag : Nat) (v1 : Int32) (v2 : Int32) (v3 : Int32) (A : Nat → Int32 → Int32) (B : Nat → Int32 → Int64) : lp_recomputeHead 0 tag v1 v2 v3 A B = none := Eq.trans rfl rfl
theorem lp_recomputeHead_15 (n : Nat) (v1 : Int32) (v2 : Int32) (v3 : Int32) (A : Nat → Int32 → Int32) (B : Nat → Int32 → Int64) : lp_recomputeHead (n + 1) 15 v1 v2 v3 A B = (if v3 < (32 : Int32) then (if (¬ v3 < 0) ∧ (((A 10) v3) = (1 : Int32) → ¬ v3 < 0) ∧ (((A 10) v3) = (1 : Int32) → ((A 11) v3) = v1 → ¬ v2 < 0 → ¬ v3 < 0) ∧ (((A 10) v3) = (1 : Int32) → ((A 11) v3) = v1 → ¬ v2 < 0 → v2 < (32 : Int32)) then lp_recomputeHead n 15 v1 (if ((A 10) v3) = (1 : Int32) then (if ((A 11) v3) = v1 then (if v2 < 0 then v3 else (if (XT.cmpL ((B 14) v3) ((B 14) v2)) < 0 then v3 else v2)) else v2) else v2) (v3 + (1 : Int32)) A B else none) else (if (¬ v1 < 0) ∧ (v1 < (8 : Int32)) then some ((0 : Int32), (ups A 7 (ups (A 7) v1 v2))) else none)) := by
  rw [lp_recomputeHead, if_pos rfl]
set_option maxRecDepth 65536 in
set_option maxHeartbeats 4000000 in
theorem lpw_recomputeHead {l : Launch} {Z : State} {a0 : Array Value} (H : OK Z a0) (F : Nat → Int32) (G : Nat → Int64) (B : Nat → Int32 → Int64) : ∀ (n : Nat) (v1 : Int32) (v2 : Int32) (v3 : Int32) (A : Nat → Int32 → Int32) (r : Int32 × (Nat → Int32 → Int32)), (lp_recomputeHead n 15 v1 v2 v3 A B = some r → Wk l Z (MoC Z cdC) md_recomputeHead 15 [.val (.ref 0), .val (.int v1), .val (.int v2), .val (.int v3)] [] (15, F, G, A, B) 0 0 (fun v w' => v = none ∧ w' = (15, F, G, r.2, B))) := by
  intro n
  induction n with
  | zero =>
    intro v1 v2 v3 A r
    exact (fun h => by rw [lp_recomputeHead_z] at h; cases h)
  | succ n ih =>
    intro v1 v2 v3 A r
    refine fun h => ?_
    · rw [lp_recomputeHead_15] at h
      exact wp_recomputeHead_15 H F G A B v1 v2 v3 (fun q1 => (gd (ifn q1 h)).1.1) (fun q1 => (gd (ifn q1 h)).1.2) (fun q1 => (rt_recomputeHead _ _ _ _ _ r (Option.some.inj (gd (ifn q1 h)).2))) (fun q1 => (gd (ifp q1 h)).1.1) (fun q1 q6 => ((gd (ifp q1 h)).1.2.1) q6) (fun q1 q6 q8 q9 => ((gd (ifp q1 h)).1.2.2.1) q6 q8 q9) (fun q1 q6 q8 q9 => ((gd (ifp q1 h)).1.2.2.2) q6 q8 q9) (fun q1 => (ih _ _ _ _ _) (gd (ifp q1 h)).2)
def en_recomputeHead (A : Nat → Int32 → Int32) (B : Nat → Int32 → Int64) (p1 : Int32) : Option (Int32 × (Nat → Int32 → Int32)) := (if p1 < 0 then some ((0 : Int32), A) else (if p1 < (8 : Int32) then lp_recomputeHead 1000 15 p1 (-1 : Int32) (0 : Int32) A B else some ((0 : Int32), A)))
theorem een_recomputeHead (A : Nat → Int32 → Int32) (B : Nat → Int32 → Int64) (p1 : Int32) : en_recomputeHead A B p1 = (if p1 < 0 then some ((0 : Int32), A) else (if p1 < (8 : Int32) then lp_recomputeHead 1000 15 p1 (-1 : Int32) (0 : Int32) A B else some ((0 : Int32), A))) := Eq.trans rfl rfl
def R_recomputeHead (A : Nat → Int32 → Int32) (B : Nat → Int32 → Int64) (p1 : Int32) : Int32 × (Nat → Int32 → Int32) := (en_recomputeHead A B p1).getD (0, (fun _ _ => 0))
theorem eR_recomputeHead (A : Nat → Int32 → Int32) (B : Nat → Int32 → Int64) (p1 : Int32) : R_recomputeHead A B p1 = (en_recomputeHead A B p1).getD (0, (fun _ _ => 0)) := Eq.trans rfl rfl
set_option maxRecDepth 65536 in
set_option maxHeartbeats 4000000 in
theorem run_recomputeHead {l : Launch} {Z : State} {a0 : Array Value} (H : OK Z a0) (F : Nat → Int32) (G : Nat → Int64) (A : Nat → Int32 → Int32) (B : Nat → Int32 → Int64) (p1 : Int32) (e1 : (en_recomputeHead A B p1).isSome = true) :
    Wk l Z (MoC Z cdC) md_recomputeHead 0 [.val (.ref 0), .val (.int p1), .unset, .unset] [] (15, F, G, A, B) 0 0 (fun v w' => v = none ∧ w' = (15, F, G, (R_recomputeHead A B p1).2, B)) := by
  obtain ⟨r, h⟩ := Option.isSome_iff_exists.mp e1
  have e : R_recomputeHead A B p1 = r := (eR_recomputeHead A B p1).trans (getD_some h)
  rw [e]
  rw [een_recomputeHead] at h
  exact wp_recomputeHead H F G A B p1 (fun q1 => (rt_recomputeHead _ _ _ _ _ r (Option.some.inj (ifp q1 h)))) (fun q1 q3 => (lpw_recomputeHead H F G B _ _ _ _ _ _) (ifp q3 (ifn q1 h))) (fun q1 q3 => (rt_recomputeHead _ _ _ _ _ r (Option.some.inj (ifn q3 (ifn q1 h)))))
set_option maxRecDepth 65536 in
set_option maxHeartbeats 4000000 in
theorem wp_recomputeDominant {l : Launch} {Z : State} {a0 : Array Value} (H : OK Z a0) (F : Nat → Int32) (G : Nat → Int64) (A : Nat → Int32 → Int32) (B : Nat → Int32 → Int64) (p1 : Int32) {Q : Option Value → WO → Prop} (h2 : p1 < 0 → Q none (15, F, G, A, B)) (h4 : ¬ p1 < 0 → p1 < (8 : Int32) → Wk l Z (MoC Z cdC) md_recomputeDominant 15 [.val (.ref 0), .val (.int p1), .val (.int (0 : Int32)), .val (.int (1 : Int32)), .unset, .unset, .unset, .unset] [] (15, F, G, A, B) 0 0 Q) (h5 : ¬ p1 < 0 → ¬ p1 < (8 : Int32) → Q none (15, F, G, A, B)) :
    Wk l Z (MoC Z cdC) md_recomputeDominant 0 [.val (.ref 0), .val (.int p1), .unset, .unset, .unset, .unset, .unset, .unset] [] (15, F, G, A, B) 0 0 Q := by
  refine Wk.iloadN o_recomputeDominant_0 rfl ?_
  refine Wk.if_lt o_recomputeDominant_1 (fun q1 => ?_) (fun q1 => ?_)
  · exact Wk.ret mrC rfl o_recomputeDominant_10 rfl (by decide) (by decide) (h2 q1)
  · refine Wk.iloadN o_recomputeDominant_4 rfl ?_
    refine Wk.bipush o_recomputeDominant_5 (z := (8 : Int32)) (by decide) ?_
    refine Wk.icmp_lt o_recomputeDominant_7 (fun q3 => ?_) (fun q3 => ?_)
    · refine Wk.iconst o_recomputeDominant_11 (z := (0 : Int32)) (by decide) ?_
      refine Wk.istoreN o_recomputeDominant_12 (Or.inl rfl) (L' := [.val (.ref 0), .val (.int p1), .val (.int (0 : Int32)), .unset, .unset, .unset, .unset, .unset]) rfl ?_
      refine Wk.iconst o_recomputeDominant_13 (z := (1 : Int32)) (by decide) ?_
      refine Wk.istoreN o_recomputeDominant_14 (Or.inl rfl) (L' := [.val (.ref 0), .val (.int p1), .val (.int (0 : Int32)), .val (.int (1 : Int32)), .unset, .unset, .unset, .unset]) rfl ?_
      exact (h4 q1 q3)
    · exact Wk.ret mrC rfl o_recomputeDominant_10 rfl (by decide) (by decide) (h5 q1 q3)

set_option maxRecDepth 65536 in
set_option maxHeartbeats 4000000 in
theorem wp_recomputeDominant_15 {l : Launch} {Z : State} {a0 : Array Value} (H : OK Z a0) (F : Nat → Int32) (G : Nat → Int64) (A : Nat → Int32 → Int32) (B : Nat → Int32 → Int64) (v1 : Int32) (v2 : Int32) (v3 : Int32) {Q : Option Value → WO → Prop} (s2 : ¬ v3 < (3 : Int32) → ¬ v1 < 0) (s3 : ¬ v3 < (3 : Int32) → v1 < (8 : Int32)) (h4 : ¬ v3 < (3 : Int32) → Q none (15, F, G, (ups A 8 (ups (A 8) v1 v2)), B)) (s5 : v3 < (3 : Int32) → ¬ (f_allocIndex v1 v3) < 0) (s6 : v3 < (3 : Int32) → (f_allocIndex v1 v3) < (24 : Int32)) (s7 : v3 < (3 : Int32) → ¬ v2 < 0) (s8 : v3 < (3 : Int32) → v2 < (3 : Int32)) (s9 : v3 < (3 : Int32) → ¬ (f_allocIndex v1 v2) < 0) (s10 : v3 < (3 : Int32) → (f_allocIndex v1 v2) < (24 : Int32)) (s11 : v3 < (3 : Int32) → ¬ v3 < 0) (h14 : v3 < (3 : Int32) → Wk l Z (MoC Z cdC) md_recomputeDominant 15 [.val (.ref 0), .val (.int v1), .val (.int (if 0 < (XT.cmpL ((((A 9) (f_allocIndex v1 v3)).toInt64) * (((A 0) v2).toInt64)) ((((A 9) (f_allocIndex v1 v2)).toInt64) * (((A 0) v3).toInt64))) then v3 else v2)), .val (.int (v3 + (1 : Int32))), .unset, .unset, .unset, .unset] [] (15, F, G, A, B) 0 0 Q) :
    Wk l Z (MoC Z cdC) md_recomputeDominant 15 [.val (.ref 0), .val (.int v1), .val (.int v2), .val (.int v3), .unset, .unset, .unset, .unset] [] (15, F, G, A, B) 0 0 Q := by
  refine Wk.iloadN o_recomputeDominant_15 rfl ?_
  refine Wk.iconst o_recomputeDominant_16 (z := (3 : Int32)) (by decide) ?_
  refine Wk.icmp_ge o_recomputeDominant_17 (fun q1 => ?_) (fun q1 => ?_)
  · refine Wk.aloadN o_recomputeDominant_80 rfl ?_
    refine Wk.getA (mA_domRes) (by decide) (i' := 9) rfl (wf_domRes H) o_recomputeDominant_81 ?_
    refine Wk.iloadN o_recomputeDominant_84 rfl ?_
    refine Wk.iloadN o_recomputeDominant_85 rfl ?_
    refine Wk.iastore (coC H) (f := (A 8)) (mA_domRes) rfl (by decide) (i' := 9) rfl (s2 q1) (s3 q1) o_recomputeDominant_86 ?_
    exact Wk.ret mrC rfl o_recomputeDominant_87 rfl (by decide) (by decide) (h4 q1)
  · refine Wk.aloadN o_recomputeDominant_20 rfl ?_
    refine Wk.getA (mA_alloc) (by decide) (i' := 10) rfl (wf_alloc H) o_recomputeDominant_21 ?_
    refine Wk.aloadN o_recomputeDominant_24 rfl ?_
    refine Wk.iloadN o_recomputeDominant_25 rfl ?_
    refine Wk.iloadN o_recomputeDominant_26 rfl ?_
    refine Wk.callF [.int v1, .int v3] [.ref 10] (H.w 52 rfl) (cv_allocIndex H) o_recomputeDominant_27 (run_allocIndex H F G A B v1 v3) (wt := 1) (cu' := 0) (su' := 0) (by decide) rfl rfl rfl rfl rfl rfl rfl ?_
    refine Wk.iaload (mA_alloc) (by decide) (i' := 10) rfl (s5 q1) (s6 q1) o_recomputeDominant_30 (y := ((A 9) (f_allocIndex v1 v3))) rfl ?_
    refine Wk.i2l o_recomputeDominant_31 ?_
    refine Wk.aloadN o_recomputeDominant_32 rfl ?_
    refine Wk.getA (mA_capRes) (by decide) (i' := 1) rfl (wf_capRes H) o_recomputeDominant_33 ?_
    refine Wk.iloadN o_recomputeDominant_36 rfl ?_
    refine Wk.iaload (mA_capRes) (by decide) (i' := 1) rfl (s7 q1) (s8 q1) o_recomputeDominant_37 (y := ((A 0) v2)) rfl ?_
    refine Wk.i2l o_recomputeDominant_38 ?_
    refine Wk.lmul o_recomputeDominant_39 ?_
    refine Wk.lstore o_recomputeDominant_40 (Or.inl rfl) (Or.inl rfl) (L' := [.val (.ref 0), .val (.int v1), .val (.int v2), .val (.int v3), .val (.long ((((A 9) (f_allocIndex v1 v3)).toInt64) * (((A 0) v2).toInt64))), .second, .unset, .unset]) rfl ?_
    refine Wk.aloadN o_recomputeDominant_42 rfl ?_
    refine Wk.getA (mA_alloc) (by decide) (i' := 10) rfl (wf_alloc H) o_recomputeDominant_43 ?_
    refine Wk.aloadN o_recomputeDominant_46 rfl ?_
    refine Wk.iloadN o_recomputeDominant_47 rfl ?_
    refine Wk.iloadN o_recomputeDominant_48 rfl ?_
    refine Wk.callF [.int v1, .int v2] [.ref 10] (H.w 52 rfl) (cv_allocIndex H) o_recomputeDominant_49 (run_allocIndex H F G A B v1 v2) (wt := 1) (cu' := 0) (su' := 0) (by decide) rfl rfl rfl rfl rfl rfl rfl ?_
    refine Wk.iaload (mA_alloc) (by decide) (i' := 10) rfl (s9 q1) (s10 q1) o_recomputeDominant_52 (y := ((A 9) (f_allocIndex v1 v2))) rfl ?_
    refine Wk.i2l o_recomputeDominant_53 ?_
    refine Wk.aloadN o_recomputeDominant_54 rfl ?_
    refine Wk.getA (mA_capRes) (by decide) (i' := 1) rfl (wf_capRes H) o_recomputeDominant_55 ?_
    refine Wk.iloadN o_recomputeDominant_58 rfl ?_
    refine Wk.iaload (mA_capRes) (by decide) (i' := 1) rfl (s11 q1) q1 o_recomputeDominant_59 (y := ((A 0) v3)) rfl ?_
    refine Wk.i2l o_recomputeDominant_60 ?_
    refine Wk.lmul o_recomputeDominant_61 ?_
    refine Wk.lstore o_recomputeDominant_62 (Or.inl rfl) (Or.inl rfl) (L' := [.val (.ref 0), .val (.int v1), .val (.int v2), .val (.int v3), .val (.long ((((A 9) (f_allocIndex v1 v3)).toInt64) * (((A 0) v2).toInt64))), .second, .val (.long ((((A 9) (f_allocIndex v1 v2)).toInt64) * (((A 0) v3).toInt64))), .second]) rfl ?_
    refine Wk.lload o_recomputeDominant_64 rfl ?_
    refine Wk.lload o_recomputeDominant_66 rfl ?_
    refine Wk.lcmp o_recomputeDominant_68 ?_
    have J13 : Wk l Z (MoC Z cdC) md_recomputeDominant 74 [.val (.ref 0), .val (.int v1), .val (.int (if 0 < (XT.cmpL ((((A 9) (f_allocIndex v1 v3)).toInt64) * (((A 0) v2).toInt64)) ((((A 9) (f_allocIndex v1 v2)).toInt64) * (((A 0) v3).toInt64))) then v3 else v2)), .val (.int v3), .val (.long ((((A 9) (f_allocIndex v1 v3)).toInt64) * (((A 0) v2).toInt64))), .second, .val (.long ((((A 9) (f_allocIndex v1 v2)).toInt64) * (((A 0) v3).toInt64))), .second] [] (15, F, G, A, B) 0 0 Q := by
      refine Wk.iinc o_recomputeDominant_74 rfl (z := (v3 + (1 : Int32))) rfl (L' := [.val (.ref 0), .val (.int v1), .val (.int (if 0 < (XT.cmpL ((((A 9) (f_allocIndex v1 v3)).toInt64) * (((A 0) v2).toInt64)) ((((A 9) (f_allocIndex v1 v2)).toInt64) * (((A 0) v3).toInt64))) then v3 else v2)), .val (.int (v3 + (1 : Int32))), .val (.long ((((A 9) (f_allocIndex v1 v3)).toInt64) * (((A 0) v2).toInt64))), .second, .val (.long ((((A 9) (f_allocIndex v1 v2)).toInt64) * (((A 0) v3).toInt64))), .second]) rfl ?_
      refine Wk.goto o_recomputeDominant_77 ?_
      refine Wk.forget [false, false, false, false, true, true, true, true] (L' := [.val (.ref 0), .val (.int v1), .val (.int (if 0 < (XT.cmpL ((((A 9) (f_allocIndex v1 v3)).toInt64) * (((A 0) v2).toInt64)) ((((A 9) (f_allocIndex v1 v2)).toInt64) * (((A 0) v3).toInt64))) then v3 else v2)), .val (.int (v3 + (1 : Int32))), .unset, .unset, .unset, .unset]) rfl rfl ?_
      exact (h14 q1)
    refine Wk.if_le o_recomputeDominant_69 (fun q12 => ?_) (fun q12 => ?_)
    · first | (rw [show ((if 0 < (XT.cmpL ((((A 9) (f_allocIndex v1 v3)).toInt64) * (((A 0) v2).toInt64)) ((((A 9) (f_allocIndex v1 v2)).toInt64) * (((A 0) v3).toInt64))) then v3 else v2) : Int32) = v2 from if_neg q12] at J13; exact J13) | exact J13 | (simp only [if_neg q12] at J13 ⊢; exact J13)
    · refine Wk.iloadN o_recomputeDominant_72 rfl ?_
      refine Wk.istoreN o_recomputeDominant_73 (Or.inr ⟨_, rfl, rfl⟩) (L' := [.val (.ref 0), .val (.int v1), .val (.int v3), .val (.int v3), .val (.long ((((A 9) (f_allocIndex v1 v3)).toInt64) * (((A 0) v2).toInt64))), .second, .val (.long ((((A 9) (f_allocIndex v1 v2)).toInt64) * (((A 0) v3).toInt64))), .second]) rfl ?_
      first | (rw [show ((if 0 < (XT.cmpL ((((A 9) (f_allocIndex v1 v3)).toInt64) * (((A 0) v2).toInt64)) ((((A 9) (f_allocIndex v1 v2)).toInt64) * (((A 0) v3).toInt64))) then v3 else v2) : Int32) = v3 from if_pos q12] at J13; exact J13) | exact J13 | (simp only [if_pos q12] at J13 ⊢; exact J13)

theorem rt_recomputeDominant (F : Nat → Int32) (G : Nat → Int64) (B : Nat → Int32 → Int64) (v0 : Int32) (xA : Nat → Int32 → Int32) (r : Int32 × (Nat → Int32 → Int32)) (e : (v0, xA) = r) : (none : Option Value) = none ∧ (15, F, G, xA, B) = (15, F, G, r.2, B) := by subst e; exact ⟨rfl, rfl⟩
def lp_recomputeDominant : Nat → Nat → Int32 → Int32 → Int32 → (Nat → Int32 → Int32) → Option (Int32 × (Nat → Int32 → Int32))
  | 0, _, _, _, _, _ => none
  | n + 1, tag, v1, v2, v3, A => if tag = 15 then (if v3 < (3 : Int32) then (if (¬ (f_allocIndex v1 v3) < 0) ∧ ((f_allocIndex v1 v3) < (24 : Int32)) ∧ (¬ v2 < 0) ∧ (v2 < (3 : Int32)) ∧ (¬ (f_allocIndex v1 v2) < 0) ∧ ((f_allocIndex v1 v2) < (24 : Int32)) ∧ (¬ v3 < 0) then lp_recomputeDominant n 15 v1 (if 0 < (XT.cmpL ((((A 9) (f_allocIndex v1 v3)).toInt64) * (((A 0) v2).toInt64)) ((((A 9) (f_allocIndex v1 v2)).toInt64) * (((A 0) v3).toInt64))) then v3 else v2) (v3 + (1 : Int32)) A else none) else (if (¬ v1 < 0) ∧ (v1 < (8 : Int32)) then some ((0 : Int32), (ups A 8 (ups (A 8) v1 v2))) else none)) else none
theorem lp_recomputeDominant_z (tag : Nat) (v1 : Int32) (v2 : Int32) (v3 : Int32) (A : Nat → Int32 → Int32) : lp_recomputeDominant 0 tag v1 v2 v3 A = none := Eq.trans rfl rfl
theorem lp_recomputeDominant_15 (n : Nat) (v1 : Int32) (v2 : Int32) (v3 : Int32) (A : Nat → Int32 → Int32) : lp_recomputeDominant (n + 1) 15 v1 v2 v3 A = (if v3 < (3 : Int32) then (if (¬ (f_allocIndex v1 v3) < 0) ∧ ((f_allocIndex v1 v3) < (24 : Int32)) ∧ (¬ v2 < 0) ∧ (v2 < (3 : Int32)) ∧ (¬ (f_allocIndex v1 v2) < 0) ∧ ((f_allocIndex v1 v2) < (24 : Int32)) ∧ (¬ v3 < 0) then lp_recomputeDominant n 15 v1 (if 0 < (XT.cmpL ((((A 9) (f_allocIndex v1 v3)).toInt64) * (((A 0) v2).toInt64)) ((((A 9) (f_allocIndex v1 v2)).toInt64) * (((A 0) v3).toInt64))) then v3 else v2) (v3 + (1 : Int32)) A else none) else (if (¬ v1 < 0) ∧ (v1 < (8 : Int32)) then some ((0 : Int32), (ups A 8 (ups (A 8) v1 v2))) else none)) := by
  rw [lp_recomputeDominant, if_pos rfl]
set_option maxRecDepth 65536 in
set_option maxHeartbeats 4000000 in
theorem lpw_recomputeDominant {l : Launch} {Z : State} {a0 : Array Value} (H : OK Z a0) (F : Nat → Int32) (G : Nat → Int64) (B : Nat → Int32 → Int64) : ∀ (n : Nat) (v1 : Int32) (v2 : Int32) (v3 : Int32) (A : Nat → Int32 → Int32) (r : Int32 × (Nat → Int32 → Int32)), (lp_recomputeDominant n 15 v1 v2 v3 A = some r → Wk l Z (MoC Z cdC) md_recomputeDominant 15 [.val (.ref 0), .val (.int v1), .val (.int v2), .val (.int v3), .unset, .unset, .unset, .unset] [] (15, F, G, A, B) 0 0 (fun v w' => v = none ∧ w' = (15, F, G, r.2, B))) := by
  intro n
  induction n with
  | zero =>
    intro v1 v2 v3 A r
    exact (fun h => by rw [lp_recomputeDominant_z] at h; cases h)
  | succ n ih =>
    intro v1 v2 v3 A r
    refine fun h => ?_
    · rw [lp_recomputeDominant_15] at h
      exact wp_recomputeDominant_15 H F G A B v1 v2 v3 (fun q1 => (gd (ifn q1 h)).1.1) (fun q1 => (gd (ifn q1 h)).1.2) (fun q1 => (rt_recomputeDominant _ _ _ _ _ r (Option.some.inj (gd (ifn q1 h)).2))) (fun q1 => (gd (ifp q1 h)).1.1) (fun q1 => (gd (ifp q1 h)).1.2.1) (fun q1 => (gd (ifp q1 h)).1.2.2.1) (fun q1 => (gd (ifp q1 h)).1.2.2.2.1) (fun q1 => (gd (ifp q1 h)).1.2.2.2.2.1) (fun q1 => (gd (ifp q1 h)).1.2.2.2.2.2.1) (fun q1 => (gd (ifp q1 h)).1.2.2.2.2.2.2) (fun q1 => (ih _ _ _ _ _) (gd (ifp q1 h)).2)
def en_recomputeDominant (A : Nat → Int32 → Int32) (p1 : Int32) : Option (Int32 × (Nat → Int32 → Int32)) := (if p1 < 0 then some ((0 : Int32), A) else (if p1 < (8 : Int32) then lp_recomputeDominant 1000 15 p1 (0 : Int32) (1 : Int32) A else some ((0 : Int32), A)))
theorem een_recomputeDominant (A : Nat → Int32 → Int32) (p1 : Int32) : en_recomputeDominant A p1 = (if p1 < 0 then some ((0 : Int32), A) else (if p1 < (8 : Int32) then lp_recomputeDominant 1000 15 p1 (0 : Int32) (1 : Int32) A else some ((0 : Int32), A))) := Eq.trans rfl rfl
def R_recomputeDominant (A : Nat → Int32 → Int32) (p1 : Int32) : Int32 × (Nat → Int32 → Int32) := (en_recomputeDominant A p1).getD (0, (fun _ _ => 0))
theorem eR_recomputeDominant (A : Nat → Int32 → Int32) (p1 : Int32) : R_recomputeDominant A p1 = (en_recomputeDominant A p1).getD (0, (fun _ _ => 0)) := Eq.trans rfl rfl
set_option maxRecDepth 65536 in
set_option maxHeartbeats 4000000 in
theorem run_recomputeDominant {l : Launch} {Z : State} {a0 : Array Value} (H : OK Z a0) (F : Nat → Int32) (G : Nat → Int64) (A : Nat → Int32 → Int32) (B : Nat → Int32 → Int64) (p1 : Int32) (e1 : (en_recomputeDominant A p1).isSome = true) :
    Wk l Z (MoC Z cdC) md_recomputeDominant 0 [.val (.ref 0), .val (.int p1), .unset, .unset, .unset, .unset, .unset, .unset] [] (15, F, G, A, B) 0 0 (fun v w' => v = none ∧ w' = (15, F, G, (R_recomputeDominant A p1).2, B)) := by
  obtain ⟨r, h⟩ := Option.isSome_iff_exists.mp e1
  have e : R_recomputeDominant A p1 = r := (eR_recomputeDominant A p1).trans (getD_some h)
  rw [e]
  rw [een_recomputeDominant] at h
  exact wp_recomputeDominant H F G A B p1 (fun q1 => (rt_recomputeDominant _ _ _ _ _ r (Option.some.inj (ifp q1 h)))) (fun q1 q3 => (lpw_recomputeDominant H F G B _ _ _ _ _ _) (ifp q3 (ifn q1 h))) (fun q1 q3 => (rt_recomputeDominant _ _ _ _ _ r (Option.some.inj (ifn q3 (ifn q1 h)))))
set_option maxRecDepth 65536 in
set_option maxHeartbeats 4000000 in
theorem wp_grantTask {l : Launch} {Z : State} {a0 : Array Value} (H : OK Z a0) (F : Nat → Int32) (G : Nat → Int64) (A : Nat → Int32 → Int32) (B : Nat → Int32 → Int64) (p1 : Int32) {Q : Option Value → WO → Prop} (s1 : ¬ p1 < 0) (s2 : p1 < (32 : Int32)) (s4 : ¬ (f_isUser F ((A 11) p1)) = 0 → ¬ ((A 11) p1) < 0) (s5 : ¬ (f_isUser F ((A 11) p1)) = 0 → ((A 11) p1) < (8 : Int32)) (s6 : ¬ (f_isUser F ((A 11) p1)) = 0 → (en_addNeed (ups (ups (ups A 10 (ups (A 10) p1 (2 : Int32))) 6 (ups (A 6) ((A 11) p1) (((A 6) ((A 11) p1)) - (1 : Int32)))) 5 (ups (A 5) ((A 11) p1) (((A 5) ((A 11) p1)) + (1 : Int32)))) ((A 11) p1) p1).isSome = true) (s7 : ¬ (f_isUser F ((A 11) p1)) = 0 → (en_recomputeHead (R_addNeed (ups (ups (ups A 10 (ups (A 10) p1 (2 : Int32))) 6 (ups (A 6) ((A 11) p1) (((A 6) ((A 11) p1)) - (1 : Int32)))) 5 (ups (A 5) ((A 11) p1) (((A 5) ((A 11) p1)) + (1 : Int32)))) ((A 11) p1) p1).2 B ((A 11) p1)).isSome = true) (s8 : ¬ (f_isUser F ((A 11) p1)) = 0 → (en_recomputeDominant (R_recomputeHead (R_addNeed (ups (ups (ups A 10 (ups (A 10) p1 (2 : Int32))) 6 (ups (A 6) ((A 11) p1) (((A 6) ((A 11) p1)) - (1 : Int32)))) 5 (ups (A 5) ((A 11) p1) (((A 5) ((A 11) p1)) + (1 : Int32)))) ((A 11) p1) p1).2 B ((A 11) p1)).2 ((A 11) p1)).isSome = true) (h9 : ¬ (f_isUser F ((A 11) p1)) = 0 → Q none (15, F, G, (R_recomputeDominant (R_recomputeHead (R_addNeed (ups (ups (ups A 10 (ups (A 10) p1 (2 : Int32))) 6 (ups (A 6) ((A 11) p1) (((A 6) ((A 11) p1)) - (1 : Int32)))) 5 (ups (A 5) ((A 11) p1) (((A 5) ((A 11) p1)) + (1 : Int32)))) ((A 11) p1) p1).2 B ((A 11) p1)).2 ((A 11) p1)).2, B)) (h10 : (f_isUser F ((A 11) p1)) = 0 → Q none (15, F, G, (ups A 10 (ups (A 10) p1 (2 : Int32))), B)) :
    Wk l Z (MoC Z cdC) md_grantTask 0 [.val (.ref 0), .val (.int p1), .unset] [] (15, F, G, A, B) 0 0 Q := by
  refine Wk.aloadN o_grantTask_0 rfl ?_
  refine Wk.getA (mA_slotUser) (by decide) (i' := 12) rfl (wf_slotUser H) o_grantTask_1 ?_
  refine Wk.iloadN o_grantTask_4 rfl ?_
  refine Wk.iaload (mA_slotUser) (by decide) (i' := 12) rfl s1 s2 o_grantTask_5 (y := ((A 11) p1)) rfl ?_
  refine Wk.istoreN o_grantTask_6 (Or.inl rfl) (L' := [.val (.ref 0), .val (.int p1), .val (.int ((A 11) p1))]) rfl ?_
  refine Wk.aloadN o_grantTask_7 rfl ?_
  refine Wk.getA (mA_slotState) (by decide) (i' := 11) rfl (wf_slotState H) o_grantTask_8 ?_
  refine Wk.iloadN o_grantTask_11 rfl ?_
  refine Wk.iconst o_grantTask_12 (z := (2 : Int32)) (by decide) ?_
  refine Wk.iastore (coC H) (f := (A 10)) (mA_slotState) rfl (by decide) (i' := 11) rfl s1 s2 o_grantTask_13 ?_
  refine Wk.aloadN o_grantTask_14 rfl ?_
  refine Wk.iloadN o_grantTask_15 rfl ?_
  refine Wk.callF [.int ((A 11) p1)] [] (H.w 80 rfl) (cv_isUser H) o_grantTask_16 (run_isUser H F G (ups A 10 (ups (A 10) p1 (2 : Int32))) B ((A 11) p1)) (wt := 0) (cu' := 0) (su' := 0) (by decide) rfl rfl rfl rfl rfl rfl rfl ?_
  refine Wk.if_ne o_grantTask_19 (fun q3 => ?_) (fun q3 => ?_)
  · refine Wk.aloadN o_grantTask_23 rfl ?_
    refine Wk.getA (mA_pendingCount) (by decide) (i' := 7) rfl (wf_pendingCount H) o_grantTask_24 ?_
    refine Wk.iloadN o_grantTask_27 rfl ?_
    refine Wk.dup2 o_grantTask_28 rfl rfl ?_
    refine Wk.iaload (mA_pendingCount) (by decide) (i' := 7) rfl (s4 q3) (s5 q3) o_grantTask_29 (y := ((A 6) ((A 11) p1))) rfl ?_
    refine Wk.iconst o_grantTask_30 (z := (1 : Int32)) (by decide) ?_
    refine Wk.isub o_grantTask_31 ?_
    refine Wk.iastore (coC H) (f := (A 6)) (mA_pendingCount) rfl (by decide) (i' := 7) rfl (s4 q3) (s5 q3) o_grantTask_32 ?_
    refine Wk.aloadN o_grantTask_33 rfl ?_
    refine Wk.getA (mA_running) (by decide) (i' := 6) rfl (wf_running H) o_grantTask_34 ?_
    refine Wk.iloadN o_grantTask_37 rfl ?_
    refine Wk.dup2 o_grantTask_38 rfl rfl ?_
    refine Wk.iaload (mA_running) (by decide) (i' := 6) rfl (s4 q3) (s5 q3) o_grantTask_39 (y := ((A 5) ((A 11) p1))) rfl ?_
    refine Wk.iconst o_grantTask_40 (z := (1 : Int32)) (by decide) ?_
    refine Wk.iadd o_grantTask_41 ?_
    refine Wk.iastore (coC H) (f := (A 5)) (mA_running) rfl (by decide) (i' := 6) rfl (s4 q3) (s5 q3) o_grantTask_42 ?_
    refine Wk.aloadN o_grantTask_43 rfl ?_
    refine Wk.iloadN o_grantTask_44 rfl ?_
    refine Wk.iloadN o_grantTask_45 rfl ?_
    refine Wk.callU [.int ((A 11) p1), .int p1] [] (H.w 173 rfl) (cv_addNeed H) o_grantTask_46 (run_addNeed H F G (ups (ups (ups A 10 (ups (A 10) p1 (2 : Int32))) 6 (ups (A 6) ((A 11) p1) (((A 6) ((A 11) p1)) - (1 : Int32)))) 5 (ups (A 5) ((A 11) p1) (((A 5) ((A 11) p1)) + (1 : Int32)))) B ((A 11) p1) p1 (s6 q3)) (wt := 0) (cu' := 0) (su' := 0) (by decide) rfl rfl rfl rfl rfl rfl rfl ?_
    refine Wk.aloadN o_grantTask_49 rfl ?_
    refine Wk.iloadN o_grantTask_50 rfl ?_
    refine Wk.callU [.int ((A 11) p1)] [] (H.w 177 rfl) (cv_recomputeHead H) o_grantTask_51 (run_recomputeHead H F G (R_addNeed (ups (ups (ups A 10 (ups (A 10) p1 (2 : Int32))) 6 (ups (A 6) ((A 11) p1) (((A 6) ((A 11) p1)) - (1 : Int32)))) 5 (ups (A 5) ((A 11) p1) (((A 5) ((A 11) p1)) + (1 : Int32)))) ((A 11) p1) p1).2 B ((A 11) p1) (s7 q3)) (wt := 0) (cu' := 0) (su' := 0) (by decide) rfl rfl rfl rfl rfl rfl rfl ?_
    refine Wk.aloadN o_grantTask_54 rfl ?_
    refine Wk.iloadN o_grantTask_55 rfl ?_
    refine Wk.callU [.int ((A 11) p1)] [] (H.w 181 rfl) (cv_recomputeDominant H) o_grantTask_56 (run_recomputeDominant H F G (R_recomputeHead (R_addNeed (ups (ups (ups A 10 (ups (A 10) p1 (2 : Int32))) 6 (ups (A 6) ((A 11) p1) (((A 6) ((A 11) p1)) - (1 : Int32)))) 5 (ups (A 5) ((A 11) p1) (((A 5) ((A 11) p1)) + (1 : Int32)))) ((A 11) p1) p1).2 B ((A 11) p1)).2 B ((A 11) p1) (s8 q3)) (wt := 0) (cu' := 0) (su' := 0) (by decide) rfl rfl rfl rfl rfl rfl rfl ?_
    exact Wk.ret mrC rfl o_grantTask_59 rfl (by decide) (by decide) (h9 q3)
  · exact Wk.ret mrC rfl o_grantTask_22 rfl (by decide) (by decide) (h10 q3)

theorem rt_grantTask (F : Nat → Int32) (G : Nat → Int64) (B : Nat → Int32 → Int64) (v0 : Int32) (xA : Nat → Int32 → Int32) (r : Int32 × (Nat → Int32 → Int32)) (e : (v0, xA) = r) : (none : Option Value) = none ∧ (15, F, G, xA, B) = (15, F, G, r.2, B) := by subst e; exact ⟨rfl, rfl⟩
def en_grantTask (F : Nat → Int32) (A : Nat → Int32 → Int32) (B : Nat → Int32 → Int64) (p1 : Int32) : Option (Int32 × (Nat → Int32 → Int32)) := (if (¬ p1 < 0) ∧ (p1 < (32 : Int32)) then (if (f_isUser F ((A 11) p1)) = 0 then some ((0 : Int32), (ups A 10 (ups (A 10) p1 (2 : Int32)))) else (if (¬ ((A 11) p1) < 0) ∧ (((A 11) p1) < (8 : Int32)) ∧ ((en_addNeed (ups (ups (ups A 10 (ups (A 10) p1 (2 : Int32))) 6 (ups (A 6) ((A 11) p1) (((A 6) ((A 11) p1)) - (1 : Int32)))) 5 (ups (A 5) ((A 11) p1) (((A 5) ((A 11) p1)) + (1 : Int32)))) ((A 11) p1) p1).isSome = true) ∧ ((en_recomputeHead (R_addNeed (ups (ups (ups A 10 (ups (A 10) p1 (2 : Int32))) 6 (ups (A 6) ((A 11) p1) (((A 6) ((A 11) p1)) - (1 : Int32)))) 5 (ups (A 5) ((A 11) p1) (((A 5) ((A 11) p1)) + (1 : Int32)))) ((A 11) p1) p1).2 B ((A 11) p1)).isSome = true) ∧ ((en_recomputeDominant (R_recomputeHead (R_addNeed (ups (ups (ups A 10 (ups (A 10) p1 (2 : Int32))) 6 (ups (A 6) ((A 11) p1) (((A 6) ((A 11) p1)) - (1 : Int32)))) 5 (ups (A 5) ((A 11) p1) (((A 5) ((A 11) p1)) + (1 : Int32)))) ((A 11) p1) p1).2 B ((A 11) p1)).2 ((A 11) p1)).isSome = true) then some ((0 : Int32), (R_recomputeDominant (R_recomputeHead (R_addNeed (ups (ups (ups A 10 (ups (A 10) p1 (2 : Int32))) 6 (ups (A 6) ((A 11) p1) (((A 6) ((A 11) p1)) - (1 : Int32)))) 5 (ups (A 5) ((A 11) p1) (((A 5) ((A 11) p1)) + (1 : Int32)))) ((A 11) p1) p1).2 B ((A 11) p1)).2 ((A 11) p1)).2) else none)) else none)
theorem een_grantTask (F : Nat → Int32) (A : Nat → Int32 → Int32) (B : Nat → Int32 → Int64) (p1 : Int32) : en_grantTask F A B p1 = (if (¬ p1 < 0) ∧ (p1 < (32 : Int32)) then (if (f_isUser F ((A 11) p1)) = 0 then some ((0 : Int32), (ups A 10 (ups (A 10) p1 (2 : Int32)))) else (if (¬ ((A 11) p1) < 0) ∧ (((A 11) p1) < (8 : Int32)) ∧ ((en_addNeed (ups (ups (ups A 10 (ups (A 10) p1 (2 : Int32))) 6 (ups (A 6) ((A 11) p1) (((A 6) ((A 11) p1)) - (1 : Int32)))) 5 (ups (A 5) ((A 11) p1) (((A 5) ((A 11) p1)) + (1 : Int32)))) ((A 11) p1) p1).isSome = true) ∧ ((en_recomputeHead (R_addNeed (ups (ups (ups A 10 (ups (A 10) p1 (2 : Int32))) 6 (ups (A 6) ((A 11) p1) (((A 6) ((A 11) p1)) - (1 : Int32)))) 5 (ups (A 5) ((A 11) p1) (((A 5) ((A 11) p1)) + (1 : Int32)))) ((A 11) p1) p1).2 B ((A 11) p1)).isSome = true) ∧ ((en_recomputeDominant (R_recomputeHead (R_addNeed (ups (ups (ups A 10 (ups (A 10) p1 (2 : Int32))) 6 (ups (A 6) ((A 11) p1) (((A 6) ((A 11) p1)) - (1 : Int32)))) 5 (ups (A 5) ((A 11) p1) (((A 5) ((A 11) p1)) + (1 : Int32)))) ((A 11) p1) p1).2 B ((A 11) p1)).2 ((A 11) p1)).isSome = true) then some ((0 : Int32), (R_recomputeDominant (R_recomputeHead (R_addNeed (ups (ups (ups A 10 (ups (A 10) p1 (2 : Int32))) 6 (ups (A 6) ((A 11) p1) (((A 6) ((A 11) p1)) - (1 : Int32)))) 5 (ups (A 5) ((A 11) p1) (((A 5) ((A 11) p1)) + (1 : Int32)))) ((A 11) p1) p1).2 B ((A 11) p1)).2 ((A 11) p1)).2) else none)) else none) := Eq.trans rfl rfl
def R_grantTask (F : Nat → Int32) (A : Nat → Int32 → Int32) (B : Nat → Int32 → Int64) (p1 : Int32) : Int32 × (Nat → Int32 → Int32) := (en_grantTask F A B p1).getD (0, (fun _ _ => 0))
theorem eR_grantTask (F : Nat → Int32) (A : Nat → Int32 → Int32) (B : Nat → Int32 → Int64) (p1 : Int32) : R_grantTask F A B p1 = (en_grantTask F A B p1).getD (0, (fun _ _ => 0)) := Eq.trans rfl rfl
set_option maxRecDepth 65536 in
set_option maxHeartbeats 4000000 in
theorem run_grantTask {l : Launch} {Z : State} {a0 : Array Value} (H : OK Z a0) (F : Nat → Int32) (G : Nat → Int64) (A : Nat → Int32 → Int32) (B : Nat → Int32 → Int64) (p1 : Int32) (e1 : (en_grantTask F A B p1).isSome = true) :
    Wk l Z (MoC Z cdC) md_grantTask 0 [.val (.ref 0), .val (.int p1), .unset] [] (15, F, G, A, B) 0 0 (fun v w' => v = none ∧ w' = (15, F, G, (R_grantTask F A B p1).2, B)) := by
  obtain ⟨r, h⟩ := Option.isSome_iff_exists.mp e1
  have e : R_grantTask F A B p1 = r := (eR_grantTask F A B p1).trans (getD_some h)
  rw [e]
  rw [een_grantTask] at h
  exact wp_grantTask H F G A B p1 ((gd h).1.1) ((gd h).1.2) (fun q3 => (gd (ifn q3 (gd h).2)).1.1) (fun q3 => (gd (ifn q3 (gd h).2)).1.2.1) (fun q3 => (gd (ifn q3 (gd h).2)).1.2.2.1) (fun q3 => (gd (ifn q3 (gd h).2)).1.2.2.2.1) (fun q3 => (gd (ifn q3 (gd h).2)).1.2.2.2.2) (fun q3 => (rt_grantTask _ _ _ _ _ r (Option.some.inj (gd (ifn q3 (gd h).2)).2))) (fun q3 => (rt_grantTask _ _ _ _ _ r (Option.some.inj (ifp q3 (gd h).2))))
set_option maxRecDepth 65536 in
set_option maxHeartbeats 4000000 in
theorem wp_step {l : Launch} {Z : State} {a0 : Array Value} (H : OK Z a0) (F : Nat → Int32) (G : Nat → Int64) (A : Nat → Int32 → Int32) (B : Nat → Int32 → Int64) {Q : Option Value → WO → Prop} (s1 : (en_bestFittingUser F A ).isSome = true) (s3 : ¬ (R_bestFittingUser F A ) < 0 → (R_bestFittingUser F A ) < (8 : Int32)) (s5 : ¬ (R_bestFittingUser F A ) < 0 → ¬ (f_isTask ((A 7) (R_bestFittingUser F A ))) = 0 → (en_grantTask F A B ((A 7) (R_bestFittingUser F A ))).isSome = true) (s6 : ¬ (R_bestFittingUser F A ) < 0 → ¬ (f_isTask ((A 7) (R_bestFittingUser F A ))) = 0 → (en_runReservationRule F (R_grantTask F A B ((A 7) (R_bestFittingUser F A ))).2 ).isSome = true) (h7 : ¬ (R_bestFittingUser F A ) < 0 → ¬ (f_isTask ((A 7) (R_bestFittingUser F A ))) = 0 → Q (some (.int ((A 7) (R_bestFittingUser F A )))) (15, (R_runReservationRule F (R_grantTask F A B ((A 7) (R_bestFittingUser F A ))).2 ).2, G, (R_grantTask F A B ((A 7) (R_bestFittingUser F A ))).2, B)) (h8 : ¬ (R_bestFittingUser F A ) < 0 → (f_isTask ((A 7) (R_bestFittingUser F A ))) = 0 → Q (some (.int (-1 : Int32))) (15, F, G, A, B)) (h9 : (R_bestFittingUser F A ) < 0 → Q (some (.int (-1 : Int32))) (15, F, G, A, B)) :
    Wk l Z (MoC Z cdC) md_step 0 [.val (.ref 0), .unset, .unset] [] (15, F, G, A, B) 0 0 Q := by
  refine Wk.aloadN o_step_0 rfl ?_
  refine Wk.callF [] [] (H.w 145 rfl) (cv_bestFittingUser H) o_step_1 (run_bestFittingUser H F G A B s1) (wt := 0) (cu' := 0) (su' := 0) (by decide) rfl rfl rfl rfl rfl rfl rfl ?_
  refine Wk.istoreN o_step_4 (Or.inl rfl) (L' := [.val (.ref 0), .val (.int (R_bestFittingUser F A )), .unset]) rfl ?_
  refine Wk.iloadN o_step_5 rfl ?_
  refine Wk.if_ge o_step_6 (fun q2 => ?_) (fun q2 => ?_)
  · refine Wk.aloadN o_step_11 rfl ?_
    refine Wk.getA (mA_headSlot) (by decide) (i' := 8) rfl (wf_headSlot H) o_step_12 ?_
    refine Wk.iloadN o_step_15 rfl ?_
    refine Wk.iaload (mA_headSlot) (by decide) (i' := 8) rfl q2 (s3 q2) o_step_16 (y := ((A 7) (R_bestFittingUser F A ))) rfl ?_
    refine Wk.istoreN o_step_17 (Or.inl rfl) (L' := [.val (.ref 0), .val (.int (R_bestFittingUser F A )), .val (.int ((A 7) (R_bestFittingUser F A )))]) rfl ?_
    refine Wk.aloadN o_step_18 rfl ?_
    refine Wk.iloadN o_step_19 rfl ?_
    refine Wk.callF [.int ((A 7) (R_bestFittingUser F A ))] [] (H.w 124 rfl) (cv_isTask H) o_step_20 (run_isTask H F G A B ((A 7) (R_bestFittingUser F A ))) (wt := 0) (cu' := 0) (su' := 0) (by decide) rfl rfl rfl rfl rfl rfl rfl ?_
    refine Wk.if_ne o_step_23 (fun q4 => ?_) (fun q4 => ?_)
    · refine Wk.aloadN o_step_28 rfl ?_
      refine Wk.iloadN o_step_29 rfl ?_
      refine Wk.callU [.int ((A 7) (R_bestFittingUser F A ))] [] (H.w 169 rfl) (cv_grantTask H) o_step_30 (run_grantTask H F G A B ((A 7) (R_bestFittingUser F A )) (s5 q2 q4)) (wt := 0) (cu' := 0) (su' := 0) (by decide) rfl rfl rfl rfl rfl rfl rfl ?_
      refine Wk.aloadN o_step_33 rfl ?_
      refine Wk.callU [] [] (H.w 104 rfl) (cv_runReservationRule H) o_step_34 (run_runReservationRule H F G (R_grantTask F A B ((A 7) (R_bestFittingUser F A ))).2 B (s6 q2 q4)) (wt := 0) (cu' := 0) (su' := 0) (by decide) rfl rfl rfl rfl rfl rfl rfl ?_
      refine Wk.iloadN o_step_37 rfl ?_
      exact Wk.ireturn mrC rfl o_step_38 rfl (by decide) (by decide) (h7 q2 q4)
    · refine Wk.iconst o_step_26 (z := (-1 : Int32)) (by decide) ?_
      exact Wk.ireturn mrC rfl o_step_27 rfl (by decide) (by decide) (h8 q2 q4)
  · refine Wk.iconst o_step_9 (z := (-1 : Int32)) (by decide) ?_
    exact Wk.ireturn mrC rfl o_step_10 rfl (by decide) (by decide) (h9 q2)

theorem rt_step (G : Nat → Int64) (B : Nat → Int32 → Int64) (v0 : Int32) (xF : Nat → Int32) (xA : Nat → Int32 → Int32) (r : Int32 × (Nat → Int32) × (Nat → Int32 → Int32)) (e : (v0, xF, xA) = r) : some (Value.int v0) = some (.int r.1) ∧ (15, xF, G, xA, B) = (15, r.2.1, G, r.2.2, B) := by subst e; exact ⟨rfl, rfl⟩
def en_step (F : Nat → Int32) (A : Nat → Int32 → Int32) (B : Nat → Int32 → Int64) : Option (Int32 × (Nat → Int32) × (Nat → Int32 → Int32)) := (if ((en_bestFittingUser F A ).isSome = true) then (if (R_bestFittingUser F A ) < 0 then some ((-1 : Int32), F, A) else (if ((R_bestFittingUser F A ) < (8 : Int32)) then (if (f_isTask ((A 7) (R_bestFittingUser F A ))) = 0 then some ((-1 : Int32), F, A) else (if ((en_grantTask F A B ((A 7) (R_bestFittingUser F A ))).isSome = true) ∧ ((en_runReservationRule F (R_grantTask F A B ((A 7) (R_bestFittingUser F A ))).2 ).isSome = true) then some (((A 7) (R_bestFittingUser F A )), (R_runReservationRule F (R_grantTask F A B ((A 7) (R_bestFittingUser F A ))).2 ).2, (R_grantTask F A B ((A 7) (R_bestFittingUser F A ))).2) else none)) else none)) else none)
theorem een_step (F : Nat → Int32) (A : Nat → Int32 → Int32) (B : Nat → Int32 → Int64) : en_step F A B  = (if ((en_bestFittingUser F A ).isSome = true) then (if (R_bestFittingUser F A ) < 0 then some ((-1 : Int32), F, A) else (if ((R_bestFittingUser F A ) < (8 : Int32)) then (if (f_isTask ((A 7) (R_bestFittingUser F A ))) = 0 then some ((-1 : Int32), F, A) else (if ((en_grantTask F A B ((A 7) (R_bestFittingUser F A ))).isSome = true) ∧ ((en_runReservationRule F (R_grantTask F A B ((A 7) (R_bestFittingUser F A ))).2 ).isSome = true) then some (((A 7) (R_bestFittingUser F A )), (R_runReservationRule F (R_grantTask F A B ((A 7) (R_bestFittingUser F A ))).2 ).2, (R_grantTask F A B ((A 7) (R_bestFittingUser F A ))).2) else none)) else none)) else none) := Eq.trans rfl rfl
def R_step (F : Nat → Int32) (A : Nat → Int32 → Int32) (B : Nat → Int32 → Int64) : Int32 × (Nat → Int32) × (Nat → Int32 → Int32) := (en_step F A B ).getD (0, (fun _ => 0), (fun _ _ => 0))
theorem eR_step (F : Nat → Int32) (A : Nat → Int32 → Int32) (B : Nat → Int32 → Int64) : R_step F A B  = (en_step F A B ).getD (0, (fun _ => 0), (fun _ _ => 0)) := Eq.trans rfl rfl
set_option maxRecDepth 65536 in
set_option maxHeartbeats 4000000 in
theorem run_step {l : Launch} {Z : State} {a0 : Array Value} (H : OK Z a0) (F : Nat → Int32) (G : Nat → Int64) (A : Nat → Int32 → Int32) (B : Nat → Int32 → Int64) (e1 : (en_step F A B ).isSome = true) :
    Wk l Z (MoC Z cdC) md_step 0 [.val (.ref 0), .unset, .unset] [] (15, F, G, A, B) 0 0 (fun v w' => v = some (.int (R_step F A B ).1) ∧ w' = (15, (R_step F A B ).2.1, G, (R_step F A B ).2.2, B)) := by
  obtain ⟨r, h⟩ := Option.isSome_iff_exists.mp e1
  have e : R_step F A B  = r := (eR_step F A B ).trans (getD_some h)
  rw [e]
  rw [een_step] at h
  exact wp_step H F G A B  ((gd h).1) (fun q2 => (gd (ifn q2 (gd h).2)).1) (fun q2 q4 => (gd (ifn q4 (gd (ifn q2 (gd h).2)).2)).1.1) (fun q2 q4 => (gd (ifn q4 (gd (ifn q2 (gd h).2)).2)).1.2) (fun q2 q4 => (rt_step _ _ _ _ _ r (Option.some.inj (gd (ifn q4 (gd (ifn q2 (gd h).2)).2)).2))) (fun q2 q4 => (rt_step _ _ _ _ _ r (Option.some.inj (ifp q4 (gd (ifn q2 (gd h).2)).2)))) (fun q2 => (rt_step _ _ _ _ _ r (Option.some.inj (ifp q2 (gd h).2))))
set_option maxRecDepth 65536 in
set_option maxHeartbeats 4000000 in
theorem wp_isResource {l : Launch} {Z : State} {a0 : Array Value} (H : OK Z a0) (F : Nat → Int32) (G : Nat → Int64) (A : Nat → Int32 → Int32) (B : Nat → Int32 → Int64) (p1 : Int32) {Q : Option Value → WO → Prop} (h5 : Q (some (.int (nar .boolean (if p1 < 0 then (0 : Int32) else (if p1 < (3 : Int32) then (1 : Int32) else (0 : Int32)))))) (15, F, G, A, B)) :
    Wk l Z (MoC Z cdC) md_isResource 0 [.val (.ref 0), .val (.int p1)] [] (15, F, G, A, B) 0 0 Q := by
  refine Wk.iloadN o_isResource_0 rfl ?_
  have J4 : Wk l Z (MoC Z cdC) md_isResource 14 [.val (.ref 0), .val (.int p1)] [.int (if p1 < 0 then (0 : Int32) else (if p1 < (3 : Int32) then (1 : Int32) else (0 : Int32)))] (15, F, G, A, B) 0 0 Q := by
    exact Wk.zreturn mrC rfl o_isResource_14 rfl (by decide) (by decide) (y := (nar .boolean (if p1 < 0 then (0 : Int32) else (if p1 < (3 : Int32) then (1 : Int32) else (0 : Int32))))) rfl h5
  refine Wk.if_lt o_isResource_1 (fun q1 => ?_) (fun q1 => ?_)
  · refine Wk.iconst o_isResource_13 (z := (0 : Int32)) (by decide) ?_
    first | (rw [show ((if p1 < 0 then (0 : Int32) else (if p1 < (3 : Int32) then (1 : Int32) else (0 : Int32))) : Int32) = (0 : Int32) from if_pos q1] at J4; exact J4) | exact J4 | (simp only [if_pos q1] at J4 ⊢; exact J4)
  · refine Wk.iloadN o_isResource_4 rfl ?_
    refine Wk.iconst o_isResource_5 (z := (3 : Int32)) (by decide) ?_
    refine Wk.icmp_ge o_isResource_6 (fun q2 => ?_) (fun q2 => ?_)
    · refine Wk.iconst o_isResource_13 (z := (0 : Int32)) (by decide) ?_
      first | (rw [show ((if p1 < 0 then (0 : Int32) else (if p1 < (3 : Int32) then (1 : Int32) else (0 : Int32))) : Int32) = (0 : Int32) from Eq.trans (if_neg q1) <| if_neg q2] at J4; exact J4) | exact J4 | (simp only [if_neg q1, if_neg q2] at J4 ⊢; exact J4)
    · refine Wk.iconst o_isResource_9 (z := (1 : Int32)) (by decide) ?_
      refine Wk.goto o_isResource_10 ?_
      first | (rw [show ((if p1 < 0 then (0 : Int32) else (if p1 < (3 : Int32) then (1 : Int32) else (0 : Int32))) : Int32) = (1 : Int32) from Eq.trans (if_neg q1) <| if_pos q2] at J4; exact J4) | exact J4 | (simp only [if_neg q1, if_pos q2] at J4 ⊢; exact J4)

def f_isResource (p1 : Int32) : Int32 := (nar .boolean (if p1 < 0 then (0 : Int32) else (if p1 < (3 : Int32) then (1 : Int32) else (0 : Int32))))
theorem e_isResource (p1 : Int32) : f_isResource p1 = (nar .boolean (if p1 < 0 then (0 : Int32) else (if p1 < (3 : Int32) then (1 : Int32) else (0 : Int32)))) := Eq.trans rfl rfl
theorem bz_isResource (p1 : Int32) : nar .boolean (f_isResource p1) = f_isResource p1 := by
  unfold f_isResource
  (repeat' split) <;> first | rfl | exact nar_nar _
theorem run_isResource {l : Launch} {Z : State} {a0 : Array Value} (H : OK Z a0) (F : Nat → Int32) (G : Nat → Int64) (A : Nat → Int32 → Int32) (B : Nat → Int32 → Int64) (p1 : Int32) :
    Wk l Z (MoC Z cdC) md_isResource 0 [.val (.ref 0), .val (.int p1)] [] (15, F, G, A, B) 0 0 (fun v w' => v = some (.int (f_isResource p1)) ∧ w' = (15, F, G, A, B)) :=
  wp_isResource H F G A B p1 ⟨rfl, rfl⟩
set_option maxRecDepth 65536 in
set_option maxHeartbeats 4000000 in
theorem wp_used {l : Launch} {Z : State} {a0 : Array Value} (H : OK Z a0) (F : Nat → Int32) (G : Nat → Int64) (A : Nat → Int32 → Int32) (B : Nat → Int32 → Int64) (p1 : Int32) {Q : Option Value → WO → Prop} (s2 : ¬ (f_isResource p1) = 0 → ¬ p1 < 0) (s3 : ¬ (f_isResource p1) = 0 → p1 < (3 : Int32)) (h4 : ¬ (f_isResource p1) = 0 → Q (some (.int ((A 1) p1))) (15, F, G, A, B)) (h5 : (f_isResource p1) = 0 → Q (some (.int (-1 : Int32))) (15, F, G, A, B)) :
    Wk l Z (MoC Z cdC) md_used 0 [.val (.ref 0), .val (.int p1)] [] (15, F, G, A, B) 0 0 Q := by
  refine Wk.aloadN o_used_0 rfl ?_
  refine Wk.iloadN o_used_1 rfl ?_
  refine Wk.callF [.int p1] [] (H.w 190 rfl) (cv_isResource H) o_used_2 (run_isResource H F G A B p1) (wt := 0) (cu' := 0) (su' := 0) (by decide) rfl rfl rfl rfl rfl rfl rfl ?_
  refine Wk.if_ne o_used_5 (fun q1 => ?_) (fun q1 => ?_)
  · refine Wk.aloadN o_used_10 rfl ?_
    refine Wk.getA (mA_usedRes) (by decide) (i' := 2) rfl (wf_usedRes H) o_used_11 ?_
    refine Wk.iloadN o_used_14 rfl ?_
    refine Wk.iaload (mA_usedRes) (by decide) (i' := 2) rfl (s2 q1) (s3 q1) o_used_15 (y := ((A 1) p1)) rfl ?_
    exact Wk.ireturn mrC rfl o_used_16 rfl (by decide) (by decide) (h4 q1)
  · refine Wk.iconst o_used_8 (z := (-1 : Int32)) (by decide) ?_
    exact Wk.ireturn mrC rfl o_used_9 rfl (by decide) (by decide) (h5 q1)

theorem rt_used (F : Nat → Int32) (G : Nat → Int64) (A : Nat → Int32 → Int32) (B : Nat → Int32 → Int64) (v0 : Int32) (r : Int32) (e : v0 = r) : some (Value.int v0) = some (.int r) ∧ (15, F, G, A, B) = (15, F, G, A, B) := by subst e; exact ⟨rfl, rfl⟩
def en_used (A : Nat → Int32 → Int32) (p1 : Int32) : Option (Int32) := (if (f_isResource p1) = 0 then some ((-1 : Int32)) else (if (¬ p1 < 0) ∧ (p1 < (3 : Int32)) then some (((A 1) p1)) else none))
theorem een_used (A : Nat → Int32 → Int32) (p1 : Int32) : en_used A p1 = (if (f_isResource p1) = 0 then some ((-1 : Int32)) else (if (¬ p1 < 0) ∧ (p1 < (3 : Int32)) then some (((A 1) p1)) else none)) := Eq.trans rfl rfl
def R_used (A : Nat → Int32 → Int32) (p1 : Int32) : Int32 := (en_used A p1).getD (0)
theorem eR_used (A : Nat → Int32 → Int32) (p1 : Int32) : R_used A p1 = (en_used A p1).getD (0) := Eq.trans rfl rfl
set_option maxRecDepth 65536 in
set_option maxHeartbeats 4000000 in
theorem run_used {l : Launch} {Z : State} {a0 : Array Value} (H : OK Z a0) (F : Nat → Int32) (G : Nat → Int64) (A : Nat → Int32 → Int32) (B : Nat → Int32 → Int64) (p1 : Int32) (e1 : (en_used A p1).isSome = true) :
    Wk l Z (MoC Z cdC) md_used 0 [.val (.ref 0), .val (.int p1)] [] (15, F, G, A, B) 0 0 (fun v w' => v = some (.int (R_used A p1)) ∧ w' = (15, F, G, A, B)) := by
  obtain ⟨r, h⟩ := Option.isSome_iff_exists.mp e1
  have e : R_used A p1 = r := (eR_used A p1).trans (getD_some h)
  rw [e]
  rw [een_used] at h
  exact wp_used H F G A B p1 (fun q1 => (gd (ifn q1 h)).1.1) (fun q1 => (gd (ifn q1 h)).1.2) (fun q1 => (rt_used _ _ _ _ _ r (Option.some.inj (gd (ifn q1 h)).2))) (fun q1 => (rt_used _ _ _ _ _ r (Option.some.inj (ifp q1 h))))
set_option maxRecDepth 65536 in
set_option maxHeartbeats 4000000 in
theorem wp_userAlloc {l : Launch} {Z : State} {a0 : Array Value} (H : OK Z a0) (F : Nat → Int32) (G : Nat → Int64) (A : Nat → Int32 → Int32) (B : Nat → Int32 → Int64) (p1 : Int32) (p2 : Int32) {Q : Option Value → WO → Prop} (h2 : (f_isUser F p1) = 0 → Q (some (.int (-1 : Int32))) (15, F, G, A, B)) (s4 : ¬ (f_isUser F p1) = 0 → ¬ (f_isResource p2) = 0 → ¬ (f_allocIndex p1 p2) < 0) (s5 : ¬ (f_isUser F p1) = 0 → ¬ (f_isResource p2) = 0 → (f_allocIndex p1 p2) < (24 : Int32)) (h6 : ¬ (f_isUser F p1) = 0 → ¬ (f_isResource p2) = 0 → Q (some (.int ((A 9) (f_allocIndex p1 p2)))) (15, F, G, A, B)) (h7 : ¬ (f_isUser F p1) = 0 → (f_isResource p2) = 0 → Q (some (.int (-1 : Int32))) (15, F, G, A, B)) :
    Wk l Z (MoC Z cdC) md_userAlloc 0 [.val (.ref 0), .val (.int p1), .val (.int p2)] [] (15, F, G, A, B) 0 0 Q := by
  refine Wk.aloadN o_userAlloc_0 rfl ?_
  refine Wk.iloadN o_userAlloc_1 rfl ?_
  refine Wk.callF [.int p1] [] (H.w 80 rfl) (cv_isUser H) o_userAlloc_2 (run_isUser H F G A B p1) (wt := 0) (cu' := 0) (su' := 0) (by decide) rfl rfl rfl rfl rfl rfl rfl ?_
  refine Wk.if_eq o_userAlloc_5 (fun q1 => ?_) (fun q1 => ?_)
  · refine Wk.iconst o_userAlloc_16 (z := (-1 : Int32)) (by decide) ?_
    exact Wk.ireturn mrC rfl o_userAlloc_17 rfl (by decide) (by decide) (h2 q1)
  · refine Wk.aloadN o_userAlloc_8 rfl ?_
    refine Wk.iloadN o_userAlloc_9 rfl ?_
    refine Wk.callF [.int p2] [] (H.w 190 rfl) (cv_isResource H) o_userAlloc_10 (run_isResource H F G A B p2) (wt := 0) (cu' := 0) (su' := 0) (by decide) rfl rfl rfl rfl rfl rfl rfl ?_
    refine Wk.if_ne o_userAlloc_13 (fun q3 => ?_) (fun q3 => ?_)
    · refine Wk.aloadN o_userAlloc_18 rfl ?_
      refine Wk.getA (mA_alloc) (by decide) (i' := 10) rfl (wf_alloc H) o_userAlloc_19 ?_
      refine Wk.aloadN o_userAlloc_22 rfl ?_
      refine Wk.iloadN o_userAlloc_23 rfl ?_
      refine Wk.iloadN o_userAlloc_24 rfl ?_
      refine Wk.callF [.int p1, .int p2] [.ref 10] (H.w 52 rfl) (cv_allocIndex H) o_userAlloc_25 (run_allocIndex H F G A B p1 p2) (wt := 1) (cu' := 0) (su' := 0) (by decide) rfl rfl rfl rfl rfl rfl rfl ?_
      refine Wk.iaload (mA_alloc) (by decide) (i' := 10) rfl (s4 q1 q3) (s5 q1 q3) o_userAlloc_28 (y := ((A 9) (f_allocIndex p1 p2))) rfl ?_
      exact Wk.ireturn mrC rfl o_userAlloc_29 rfl (by decide) (by decide) (h6 q1 q3)
    · refine Wk.iconst o_userAlloc_16 (z := (-1 : Int32)) (by decide) ?_
      exact Wk.ireturn mrC rfl o_userAlloc_17 rfl (by decide) (by decide) (h7 q1 q3)

theorem rt_userAlloc (F : Nat → Int32) (G : Nat → Int64) (A : Nat → Int32 → Int32) (B : Nat → Int32 → Int64) (v0 : Int32) (r : Int32) (e : v0 = r) : some (Value.int v0) = some (.int r) ∧ (15, F, G, A, B) = (15, F, G, A, B) := by subst e; exact ⟨rfl, rfl⟩
def en_userAlloc (F : Nat → Int32) (A : Nat → Int32 → Int32) (p1 : Int32) (p2 : Int32) : Option (Int32) := (if (f_isUser F p1) = 0 then some ((-1 : Int32)) else (if (f_isResource p2) = 0 then some ((-1 : Int32)) else (if (¬ (f_allocIndex p1 p2) < 0) ∧ ((f_allocIndex p1 p2) < (24 : Int32)) then some (((A 9) (f_allocIndex p1 p2))) else none)))
theorem een_userAlloc (F : Nat → Int32) (A : Nat → Int32 → Int32) (p1 : Int32) (p2 : Int32) : en_userAlloc F A p1 p2 = (if (f_isUser F p1) = 0 then some ((-1 : Int32)) else (if (f_isResource p2) = 0 then some ((-1 : Int32)) else (if (¬ (f_allocIndex p1 p2) < 0) ∧ ((f_allocIndex p1 p2) < (24 : Int32)) then some (((A 9) (f_allocIndex p1 p2))) else none))) := Eq.trans rfl rfl
def R_userAlloc (F : Nat → Int32) (A : Nat → Int32 → Int32) (p1 : Int32) (p2 : Int32) : Int32 := (en_userAlloc F A p1 p2).getD (0)
theorem eR_userAlloc (F : Nat → Int32) (A : Nat → Int32 → Int32) (p1 : Int32) (p2 : Int32) : R_userAlloc F A p1 p2 = (en_userAlloc F A p1 p2).getD (0) := Eq.trans rfl rfl
set_option maxRecDepth 65536 in
set_option maxHeartbeats 4000000 in
theorem run_userAlloc {l : Launch} {Z : State} {a0 : Array Value} (H : OK Z a0) (F : Nat → Int32) (G : Nat → Int64) (A : Nat → Int32 → Int32) (B : Nat → Int32 → Int64) (p1 : Int32) (p2 : Int32) (e1 : (en_userAlloc F A p1 p2).isSome = true) :
    Wk l Z (MoC Z cdC) md_userAlloc 0 [.val (.ref 0), .val (.int p1), .val (.int p2)] [] (15, F, G, A, B) 0 0 (fun v w' => v = some (.int (R_userAlloc F A p1 p2)) ∧ w' = (15, F, G, A, B)) := by
  obtain ⟨r, h⟩ := Option.isSome_iff_exists.mp e1
  have e : R_userAlloc F A p1 p2 = r := (eR_userAlloc F A p1 p2).trans (getD_some h)
  rw [e]
  rw [een_userAlloc] at h
  exact wp_userAlloc H F G A B p1 p2 (fun q1 => (rt_userAlloc _ _ _ _ _ r (Option.some.inj (ifp q1 h)))) (fun q1 q3 => (gd (ifn q3 (ifn q1 h))).1.1) (fun q1 q3 => (gd (ifn q3 (ifn q1 h))).1.2) (fun q1 q3 => (rt_userAlloc _ _ _ _ _ r (Option.some.inj (gd (ifn q3 (ifn q1 h))).2))) (fun q1 q3 => (rt_userAlloc _ _ _ _ _ r (Option.some.inj (ifp q3 (ifn q1 h)))))
set_option maxRecDepth 65536 in
set_option maxHeartbeats 4000000 in
theorem wp_compareShares {l : Launch} {Z : State} {a0 : Array Value} (H : OK Z a0) (F : Nat → Int32) (G : Nat → Int64) (A : Nat → Int32 → Int32) (B : Nat → Int32 → Int64) (p1 : Int32) (p2 : Int32) {Q : Option Value → WO → Prop} (h2 : (f_isUser F p1) = 0 → Q (some (.int (-2 : Int32))) (15, F, G, A, B)) (s4 : ¬ (f_isUser F p1) = 0 → ¬ (f_isUser F p2) = 0 → (en_compareUsers A p1 p2).isSome = true) (h5 : ¬ (f_isUser F p1) = 0 → ¬ (f_isUser F p2) = 0 → Q (some (.int (R_compareUsers A p1 p2))) (15, F, G, A, B)) (h6 : ¬ (f_isUser F p1) = 0 → (f_isUser F p2) = 0 → Q (some (.int (-2 : Int32))) (15, F, G, A, B)) :
    Wk l Z (MoC Z cdC) md_compareShares 0 [.val (.ref 0), .val (.int p1), .val (.int p2)] [] (15, F, G, A, B) 0 0 Q := by
  refine Wk.aloadN o_compareShares_0 rfl ?_
  refine Wk.iloadN o_compareShares_1 rfl ?_
  refine Wk.callF [.int p1] [] (H.w 80 rfl) (cv_isUser H) o_compareShares_2 (run_isUser H F G A B p1) (wt := 0) (cu' := 0) (su' := 0) (by decide) rfl rfl rfl rfl rfl rfl rfl ?_
  refine Wk.if_eq o_compareShares_5 (fun q1 => ?_) (fun q1 => ?_)
  · refine Wk.bipush o_compareShares_16 (z := (-2 : Int32)) (by decide) ?_
    exact Wk.ireturn mrC rfl o_compareShares_18 rfl (by decide) (by decide) (h2 q1)
  · refine Wk.aloadN o_compareShares_8 rfl ?_
    refine Wk.iloadN o_compareShares_9 rfl ?_
    refine Wk.callF [.int p2] [] (H.w 80 rfl) (cv_isUser H) o_compareShares_10 (run_isUser H F G A B p2) (wt := 0) (cu' := 0) (su' := 0) (by decide) rfl rfl rfl rfl rfl rfl rfl ?_
    refine Wk.if_ne o_compareShares_13 (fun q3 => ?_) (fun q3 => ?_)
    · refine Wk.aloadN o_compareShares_19 rfl ?_
      refine Wk.iloadN o_compareShares_20 rfl ?_
      refine Wk.iloadN o_compareShares_21 rfl ?_
      refine Wk.callF [.int p1, .int p2] [] (H.w 128 rfl) (cv_compareUsers H) o_compareShares_22 (run_compareUsers H F G A B p1 p2 (s4 q1 q3)) (wt := 0) (cu' := 0) (su' := 0) (by decide) rfl rfl rfl rfl rfl rfl rfl ?_
      exact Wk.ireturn mrC rfl o_compareShares_25 rfl (by decide) (by decide) (h5 q1 q3)
    · refine Wk.bipush o_compareShares_16 (z := (-2 : Int32)) (by decide) ?_
      exact Wk.ireturn mrC rfl o_compareShares_18 rfl (by decide) (by decide) (h6 q1 q3)

theorem rt_compareShares (F : Nat → Int32) (G : Nat → Int64) (A : Nat → Int32 → Int32) (B : Nat → Int32 → Int64) (v0 : Int32) (r : Int32) (e : v0 = r) : some (Value.int v0) = some (.int r) ∧ (15, F, G, A, B) = (15, F, G, A, B) := by subst e; exact ⟨rfl, rfl⟩
def en_compareShares (F : Nat → Int32) (A : Nat → Int32 → Int32) (p1 : Int32) (p2 : Int32) : Option (Int32) := (if (f_isUser F p1) = 0 then some ((-2 : Int32)) else (if (f_isUser F p2) = 0 then some ((-2 : Int32)) else (if ((en_compareUsers A p1 p2).isSome = true) then some ((R_compareUsers A p1 p2)) else none)))
theorem een_compareShares (F : Nat → Int32) (A : Nat → Int32 → Int32) (p1 : Int32) (p2 : Int32) : en_compareShares F A p1 p2 = (if (f_isUser F p1) = 0 then some ((-2 : Int32)) else (if (f_isUser F p2) = 0 then some ((-2 : Int32)) else (if ((en_compareUsers A p1 p2).isSome = true) then some ((R_compareUsers A p1 p2)) else none))) := Eq.trans rfl rfl
def R_compareShares (F : Nat → Int32) (A : Nat → Int32 → Int32) (p1 : Int32) (p2 : Int32) : Int32 := (en_compareShares F A p1 p2).getD (0)
theorem eR_compareShares (F : Nat → Int32) (A : Nat → Int32 → Int32) (p1 : Int32) (p2 : Int32) : R_compareShares F A p1 p2 = (en_compareShares F A p1 p2).getD (0) := Eq.trans rfl rfl
set_option maxRecDepth 65536 in
set_option maxHeartbeats 4000000 in
theorem run_compareShares {l : Launch} {Z : State} {a0 : Array Value} (H : OK Z a0) (F : Nat → Int32) (G : Nat → Int64) (A : Nat → Int32 → Int32) (B : Nat → Int32 → Int64) (p1 : Int32) (p2 : Int32) (e1 : (en_compareShares F A p1 p2).isSome = true) :
    Wk l Z (MoC Z cdC) md_compareShares 0 [.val (.ref 0), .val (.int p1), .val (.int p2)] [] (15, F, G, A, B) 0 0 (fun v w' => v = some (.int (R_compareShares F A p1 p2)) ∧ w' = (15, F, G, A, B)) := by
  obtain ⟨r, h⟩ := Option.isSome_iff_exists.mp e1
  have e : R_compareShares F A p1 p2 = r := (eR_compareShares F A p1 p2).trans (getD_some h)
  rw [e]
  rw [een_compareShares] at h
  exact wp_compareShares H F G A B p1 p2 (fun q1 => (rt_compareShares _ _ _ _ _ r (Option.some.inj (ifp q1 h)))) (fun q1 q3 => (gd (ifn q3 (ifn q1 h))).1) (fun q1 q3 => (rt_compareShares _ _ _ _ _ r (Option.some.inj (gd (ifn q3 (ifn q1 h))).2))) (fun q1 q3 => (rt_compareShares _ _ _ _ _ r (Option.some.inj (ifp q3 (ifn q1 h)))))
set_option maxRecDepth 65536 in
set_option maxHeartbeats 4000000 in
theorem wp_L_law {l : Launch} {Z : State} {a0 : Array Value} (H : OK Z a0) (sl : Int32) (sv : Int32 → Int32) (p1 : Int32) (p2 : Int32) (p3 : Int32) (p4 : Int32) (p5 : Int32) (p6 : Int32) {Q : Option Value → WL → Prop} (h1 : Wk l Z (MoL Z cdC "DominantShareL3" false) md_L_law 61 [.unset, .unset, .unset, .unset, .unset, .unset, .val (.int ((4 : Int32) + (p1 &&& (15 : Int32)))), .val (.int ((4 : Int32) + (p2 &&& (15 : Int32)))), .val (.int ((1 : Int32) + (p3 &&& (3 : Int32)))), .val (.int ((1 : Int32) + (p4 &&& (3 : Int32)))), .val (.int ((1 : Int32) + (p5 &&& (3 : Int32)))), .val (.int ((1 : Int32) + (p6 &&& (3 : Int32)))), .val (.ref 1), .unset, .unset, .unset, .unset, .unset, .unset, .unset, .unset, .unset, .unset, .unset, .unset] [] (sl, sv, [(15, (F_init ((4 : Int32) + (p1 &&& (15 : Int32))) ((4 : Int32) + (p2 &&& (15 : Int32))) (1 : Int32) (2 : Int32)), (G_init ((4 : Int32) + (p1 &&& (15 : Int32))) ((4 : Int32) + (p2 &&& (15 : Int32))) (1 : Int32) (2 : Int32)), (A_init ((4 : Int32) + (p1 &&& (15 : Int32))) ((4 : Int32) + (p2 &&& (15 : Int32))) (1 : Int32) (2 : Int32)), (B_init ((4 : Int32) + (p1 &&& (15 : Int32))) ((4 : Int32) + (p2 &&& (15 : Int32))) (1 : Int32) (2 : Int32)))]) 16 324 Q) :
    Wk l Z (MoL Z cdC "DominantShareL3" false) md_L_law 0 [.val (.int p1), .val (.int p2), .val (.int p3), .val (.int p4), .val (.int p5), .val (.int p6), .unset, .unset, .unset, .unset, .unset, .unset, .unset, .unset, .unset, .unset, .unset, .unset, .unset, .unset, .unset, .unset, .unset, .unset, .unset] [] (sl, sv, []) 0 0 Q := by
  refine Wk.iconst o_L_law_0 (z := (4 : Int32)) (by decide) ?_
  refine Wk.iloadN o_L_law_1 rfl ?_
  refine Wk.bipush o_L_law_2 (z := (15 : Int32)) (by decide) ?_
  refine Wk.iand o_L_law_4 ?_
  refine Wk.iadd o_L_law_5 ?_
  refine Wk.istore o_L_law_6 (Or.inl rfl) (L' := [.val (.int p1), .val (.int p2), .val (.int p3), .val (.int p4), .val (.int p5), .val (.int p6), .val (.int ((4 : Int32) + (p1 &&& (15 : Int32)))), .unset, .unset, .unset, .unset, .unset, .unset, .unset, .unset, .unset, .unset, .unset, .unset, .unset, .unset, .unset, .unset, .unset, .unset]) rfl ?_
  refine Wk.iconst o_L_law_8 (z := (4 : Int32)) (by decide) ?_
  refine Wk.iloadN o_L_law_9 rfl ?_
  refine Wk.bipush o_L_law_10 (z := (15 : Int32)) (by decide) ?_
  refine Wk.iand o_L_law_12 ?_
  refine Wk.iadd o_L_law_13 ?_
  refine Wk.istore o_L_law_14 (Or.inl rfl) (L' := [.val (.int p1), .val (.int p2), .val (.int p3), .val (.int p4), .val (.int p5), .val (.int p6), .val (.int ((4 : Int32) + (p1 &&& (15 : Int32)))), .val (.int ((4 : Int32) + (p2 &&& (15 : Int32)))), .unset, .unset, .unset, .unset, .unset, .unset, .unset, .unset, .unset, .unset, .unset, .unset, .unset, .unset, .unset, .unset, .unset]) rfl ?_
  refine Wk.iconst o_L_law_16 (z := (1 : Int32)) (by decide) ?_
  refine Wk.iloadN o_L_law_17 rfl ?_
  refine Wk.iconst o_L_law_18 (z := (3 : Int32)) (by decide) ?_
  refine Wk.iand o_L_law_19 ?_
  refine Wk.iadd o_L_law_20 ?_
  refine Wk.istore o_L_law_21 (Or.inl rfl) (L' := [.val (.int p1), .val (.int p2), .val (.int p3), .val (.int p4), .val (.int p5), .val (.int p6), .val (.int ((4 : Int32) + (p1 &&& (15 : Int32)))), .val (.int ((4 : Int32) + (p2 &&& (15 : Int32)))), .val (.int ((1 : Int32) + (p3 &&& (3 : Int32)))), .unset, .unset, .unset, .unset, .unset, .unset, .unset, .unset, .unset, .unset, .unset, .unset, .unset, .unset, .unset, .unset]) rfl ?_
  refine Wk.iconst o_L_law_23 (z := (1 : Int32)) (by decide) ?_
  refine Wk.iloadN o_L_law_24 rfl ?_
  refine Wk.iconst o_L_law_25 (z := (3 : Int32)) (by decide) ?_
  refine Wk.iand o_L_law_26 ?_
  refine Wk.iadd o_L_law_27 ?_
  refine Wk.istore o_L_law_28 (Or.inl rfl) (L' := [.val (.int p1), .val (.int p2), .val (.int p3), .val (.int p4), .val (.int p5), .val (.int p6), .val (.int ((4 : Int32) + (p1 &&& (15 : Int32)))), .val (.int ((4 : Int32) + (p2 &&& (15 : Int32)))), .val (.int ((1 : Int32) + (p3 &&& (3 : Int32)))), .val (.int ((1 : Int32) + (p4 &&& (3 : Int32)))), .unset, .unset, .unset, .unset, .unset, .unset, .unset, .unset, .unset, .unset, .unset, .unset, .unset, .unset, .unset]) rfl ?_
  refine Wk.iconst o_L_law_30 (z := (1 : Int32)) (by decide) ?_
  refine Wk.iload o_L_law_31 rfl ?_
  refine Wk.iconst o_L_law_33 (z := (3 : Int32)) (by decide) ?_
  refine Wk.iand o_L_law_34 ?_
  refine Wk.iadd o_L_law_35 ?_
  refine Wk.istore o_L_law_36 (Or.inl rfl) (L' := [.val (.int p1), .val (.int p2), .val (.int p3), .val (.int p4), .val (.int p5), .val (.int p6), .val (.int ((4 : Int32) + (p1 &&& (15 : Int32)))), .val (.int ((4 : Int32) + (p2 &&& (15 : Int32)))), .val (.int ((1 : Int32) + (p3 &&& (3 : Int32)))), .val (.int ((1 : Int32) + (p4 &&& (3 : Int32)))), .val (.int ((1 : Int32) + (p5 &&& (3 : Int32)))), .unset, .unset, .unset, .unset, .unset, .unset, .unset, .unset, .unset, .unset, .unset, .unset, .unset, .unset]) rfl ?_
  refine Wk.iconst o_L_law_38 (z := (1 : Int32)) (by decide) ?_
  refine Wk.iload o_L_law_39 rfl ?_
  refine Wk.iconst o_L_law_41 (z := (3 : Int32)) (by decide) ?_
  refine Wk.iand o_L_law_42 ?_
  refine Wk.iadd o_L_law_43 ?_
  refine Wk.istore o_L_law_44 (Or.inl rfl) (L' := [.val (.int p1), .val (.int p2), .val (.int p3), .val (.int p4), .val (.int p5), .val (.int p6), .val (.int ((4 : Int32) + (p1 &&& (15 : Int32)))), .val (.int ((4 : Int32) + (p2 &&& (15 : Int32)))), .val (.int ((1 : Int32) + (p3 &&& (3 : Int32)))), .val (.int ((1 : Int32) + (p4 &&& (3 : Int32)))), .val (.int ((1 : Int32) + (p5 &&& (3 : Int32)))), .val (.int ((1 : Int32) + (p6 &&& (3 : Int32)))), .unset, .unset, .unset, .unset, .unset, .unset, .unset, .unset, .unset, .unset, .unset, .unset, .unset]) rfl ?_
  refine Wk.newL (coC H) (kk := 19) (H.w 0 rfl) (H.w 1 rfl) (wz_C H) o_L_law_46 trivial (i' := 1) rfl (ws' := [(0, (fun _ => 0), (fun _ => 0), (fun _ _ => 0), (fun _ _ => 0))]) rfl (cu' := 1) rfl (su' := 19) rfl (by decide) (by decide) ?_
  refine Wk.dup o_L_law_49 rfl ?_
  refine Wk.iload o_L_law_50 rfl ?_
  refine Wk.iload o_L_law_52 rfl ?_
  refine Wk.iconst o_L_law_54 (z := (1 : Int32)) (by decide) ?_
  refine Wk.iconst o_L_law_55 (z := (2 : Int32)) (by decide) ?_
  refine Wk.ctorLU (coC H) [.int ((4 : Int32) + (p1 &&& (15 : Int32))), .int ((4 : Int32) + (p2 &&& (15 : Int32))), .int (1 : Int32), .int (2 : Int32)] 0 [.ref 1] (i' := 1) (H.w 3 rfl) (cv_init H) o_L_law_56 (run_init H ((4 : Int32) + (p1 &&& (15 : Int32))) ((4 : Int32) + (p2 &&& (15 : Int32))) (1 : Int32) (2 : Int32)) (wt := 1) (cu' := 16) (su' := 324) (by decide) trivial rfl rfl rfl rfl rfl (al_init _ _ _ _) rfl rfl rfl rfl (ws' := [(15, (F_init ((4 : Int32) + (p1 &&& (15 : Int32))) ((4 : Int32) + (p2 &&& (15 : Int32))) (1 : Int32) (2 : Int32)), (G_init ((4 : Int32) + (p1 &&& (15 : Int32))) ((4 : Int32) + (p2 &&& (15 : Int32))) (1 : Int32) (2 : Int32)), (A_init ((4 : Int32) + (p1 &&& (15 : Int32))) ((4 : Int32) + (p2 &&& (15 : Int32))) (1 : Int32) (2 : Int32)), (B_init ((4 : Int32) + (p1 &&& (15 : Int32))) ((4 : Int32) + (p2 &&& (15 : Int32))) (1 : Int32) (2 : Int32)))]) rfl ?_
  refine Wk.astore o_L_law_59 (Or.inl rfl) (L' := [.val (.int p1), .val (.int p2), .val (.int p3), .val (.int p4), .val (.int p5), .val (.int p6), .val (.int ((4 : Int32) + (p1 &&& (15 : Int32)))), .val (.int ((4 : Int32) + (p2 &&& (15 : Int32)))), .val (.int ((1 : Int32) + (p3 &&& (3 : Int32)))), .val (.int ((1 : Int32) + (p4 &&& (3 : Int32)))), .val (.int ((1 : Int32) + (p5 &&& (3 : Int32)))), .val (.int ((1 : Int32) + (p6 &&& (3 : Int32)))), .val (.ref 1), .unset, .unset, .unset, .unset, .unset, .unset, .unset, .unset, .unset, .unset, .unset, .unset]) rfl ?_
  refine Wk.forget [true, true, true, true, true, true, false, false, false, false, false, false, false, false, false, false, false, false, false, false, false, false, false, false, false] (L' := [.unset, .unset, .unset, .unset, .unset, .unset, .val (.int ((4 : Int32) + (p1 &&& (15 : Int32)))), .val (.int ((4 : Int32) + (p2 &&& (15 : Int32)))), .val (.int ((1 : Int32) + (p3 &&& (3 : Int32)))), .val (.int ((1 : Int32) + (p4 &&& (3 : Int32)))), .val (.int ((1 : Int32) + (p5 &&& (3 : Int32)))), .val (.int ((1 : Int32) + (p6 &&& (3 : Int32)))), .val (.ref 1), .unset, .unset, .unset, .unset, .unset, .unset, .unset, .unset, .unset, .unset, .unset, .unset]) rfl rfl ?_
  exact h1

set_option maxRecDepth 65536 in
set_option maxHeartbeats 4000000 in
theorem wp_L_law_61 {l : Launch} {Z : State} {a0 : Array Value} (H : OK Z a0) (sl : Int32) (sv : Int32 → Int32) (F1 : Nat → Int32) (G1 : Nat → Int64) (A1 : Nat → Int32 → Int32) (B1 : Nat → Int32 → Int64) (v6 : Int32) (v7 : Int32) (v8 : Int32) (v9 : Int32) (v10 : Int32) (v11 : Int32) {Q : Option Value → WL → Prop} (h2 : ¬ (f_stage v8 v9 (0 : Int32)) = 0 → Wk l Z (MoL Z cdC "DominantShareL3" false) md_L_law 76 [.unset, .unset, .unset, .unset, .unset, .unset, .val (.int v6), .val (.int v7), .val (.int v8), .val (.int v9), .val (.int v10), .val (.int v11), .val (.ref 1), .unset, .unset, .unset, .unset, .unset, .unset, .unset, .unset, .unset, .unset, .unset, .unset] [] (sl, sv, [(15, F1, G1, (A_stage A1 v8 v9 (0 : Int32)), B1)]) 16 324 Q) (h3 : (f_stage v8 v9 (0 : Int32)) = 0 → Q (some (.int (0 : Int32))) (sl, sv, [(15, F1, G1, (A_stage A1 v8 v9 (0 : Int32)), B1)])) :
    Wk l Z (MoL Z cdC "DominantShareL3" false) md_L_law 61 [.unset, .unset, .unset, .unset, .unset, .unset, .val (.int v6), .val (.int v7), .val (.int v8), .val (.int v9), .val (.int v10), .val (.int v11), .val (.ref 1), .unset, .unset, .unset, .unset, .unset, .unset, .unset, .unset, .unset, .unset, .unset, .unset] [] (sl, sv, [(15, F1, G1, A1, B1)]) 16 324 Q := by
  refine Wk.aload o_L_law_61 rfl ?_
  refine Wk.iload o_L_law_63 rfl ?_
  refine Wk.iload o_L_law_65 rfl ?_
  refine Wk.iconst o_L_law_67 (z := (0 : Int32)) (by decide) ?_
  refine Wk.callLF (coC H) [.int v8, .int v9, .int (0 : Int32)] 0 [] (i' := 1) (H.w 66 rfl) (cv_stage H) o_L_law_68 (run_stage H F1 G1 A1 B1 v8 v9 (0 : Int32)) (wt := 0) (cu' := 16) (su' := 324) (by decide) trivial rfl rfl rfl rfl rfl rfl rfl rfl rfl rfl (ws' := [(15, F1, G1, (A_stage A1 v8 v9 (0 : Int32)), B1)]) rfl ?_
  refine Wk.if_ne o_L_law_71 (fun q1 => ?_) (fun q1 => ?_)
  · exact (h2 q1)
  · refine Wk.iconst o_L_law_74 (z := (0 : Int32)) (by decide) ?_
    exact Wk.zreturn mrL rfl o_L_law_75 rfl (by decide) (by decide) (y := (0 : Int32)) (by decide) (h3 q1)

set_option maxRecDepth 65536 in
set_option maxHeartbeats 4000000 in
theorem wp_L_law_76 {l : Launch} {Z : State} {a0 : Array Value} (H : OK Z a0) (sl : Int32) (sv : Int32 → Int32) (F1 : Nat → Int32) (G1 : Nat → Int64) (A1 : Nat → Int32 → Int32) (B1 : Nat → Int32 → Int64) (v6 : Int32) (v7 : Int32) (v8 : Int32) (v9 : Int32) (v10 : Int32) (v11 : Int32) {Q : Option Value → WL → Prop} (s1 : (en_submit F1 G1 A1 B1 (0 : Int32) (1 : Int32)).isSome = true) (h3 : (R_submit F1 G1 A1 B1 (0 : Int32) (1 : Int32)).1 = 0 → Wk l Z (MoL Z cdC "DominantShareL3" false) md_L_law 88 [.unset, .unset, .unset, .unset, .unset, .unset, .val (.int v6), .val (.int v7), .val (.int v8), .val (.int v9), .val (.int v10), .val (.int v11), .val (.ref 1), .unset, .unset, .unset, .unset, .unset, .unset, .unset, .unset, .unset, .unset, .unset, .unset] [] (sl, sv, [(15, (R_submit F1 G1 A1 B1 (0 : Int32) (1 : Int32)).2.1, (R_submit F1 G1 A1 B1 (0 : Int32) (1 : Int32)).2.2.1, (R_submit F1 G1 A1 B1 (0 : Int32) (1 : Int32)).2.2.2.1, (R_submit F1 G1 A1 B1 (0 : Int32) (1 : Int32)).2.2.2.2)]) 16 324 Q) (h4 : ¬ (R_submit F1 G1 A1 B1 (0 : Int32) (1 : Int32)).1 = 0 → Q (some (.int (0 : Int32))) (sl, sv, [(15, (R_submit F1 G1 A1 B1 (0 : Int32) (1 : Int32)).2.1, (R_submit F1 G1 A1 B1 (0 : Int32) (1 : Int32)).2.2.1, (R_submit F1 G1 A1 B1 (0 : Int32) (1 : Int32)).2.2.2.1, (R_submit F1 G1 A1 B1 (0 : Int32) (1 : Int32)).2.2.2.2)])) :
    Wk l Z (MoL Z cdC "DominantShareL3" false) md_L_law 76 [.unset, .unset, .unset, .unset, .unset, .unset, .val (.int v6), .val (.int v7), .val (.int v8), .val (.int v9), .val (.int v10), .val (.int v11), .val (.ref 1), .unset, .unset, .unset, .unset, .unset, .unset, .unset, .unset, .unset, .unset, .unset, .unset] [] (sl, sv, [(15, F1, G1, A1, B1)]) 16 324 Q := by
  refine Wk.aload o_L_law_76 rfl ?_
  refine Wk.iconst o_L_law_78 (z := (0 : Int32)) (by decide) ?_
  refine Wk.iconst o_L_law_79 (z := (1 : Int32)) (by decide) ?_
  refine Wk.callLF (coC H) [.int (0 : Int32), .int (1 : Int32)] 0 [] (i' := 1) (H.w 75 rfl) (cv_submit H) o_L_law_80 (run_submit H F1 G1 A1 B1 (0 : Int32) (1 : Int32) s1) (wt := 0) (cu' := 16) (su' := 324) (by decide) trivial rfl rfl rfl rfl rfl rfl rfl rfl rfl rfl (ws' := [(15, (R_submit F1 G1 A1 B1 (0 : Int32) (1 : Int32)).2.1, (R_submit F1 G1 A1 B1 (0 : Int32) (1 : Int32)).2.2.1, (R_submit F1 G1 A1 B1 (0 : Int32) (1 : Int32)).2.2.2.1, (R_submit F1 G1 A1 B1 (0 : Int32) (1 : Int32)).2.2.2.2)]) rfl ?_
  refine Wk.if_eq o_L_law_83 (fun q2 => ?_) (fun q2 => ?_)
  · exact (h3 q2)
  · refine Wk.iconst o_L_law_86 (z := (0 : Int32)) (by decide) ?_
    exact Wk.zreturn mrL rfl o_L_law_87 rfl (by decide) (by decide) (y := (0 : Int32)) (by decide) (h4 q2)

set_option maxRecDepth 65536 in
set_option maxHeartbeats 4000000 in
theorem wp_L_law_88 {l : Launch} {Z : State} {a0 : Array Value} (H : OK Z a0) (sl : Int32) (sv : Int32 → Int32) (F1 : Nat → Int32) (G1 : Nat → Int64) (A1 : Nat → Int32 → Int32) (B1 : Nat → Int32 → Int64) (v6 : Int32) (v7 : Int32) (v8 : Int32) (v9 : Int32) (v10 : Int32) (v11 : Int32) {Q : Option Value → WL → Prop} (s1 : (en_submit F1 G1 A1 B1 (0 : Int32) (1 : Int32)).isSome = true) (h3 : (R_submit F1 G1 A1 B1 (0 : Int32) (1 : Int32)).1 = (1 : Int32) → Wk l Z (MoL Z cdC "DominantShareL3" false) md_L_law 101 [.unset, .unset, .unset, .unset, .unset, .unset, .val (.int v6), .val (.int v7), .val (.int v8), .val (.int v9), .val (.int v10), .val (.int v11), .val (.ref 1), .unset, .unset, .unset, .unset, .unset, .unset, .unset, .unset, .unset, .unset, .unset, .unset] [] (sl, sv, [(15, (R_submit F1 G1 A1 B1 (0 : Int32) (1 : Int32)).2.1, (R_submit F1 G1 A1 B1 (0 : Int32) (1 : Int32)).2.2.1, (R_submit F1 G1 A1 B1 (0 : Int32) (1 : Int32)).2.2.2.1, (R_submit F1 G1 A1 B1 (0 : Int32) (1 : Int32)).2.2.2.2)]) 16 324 Q) (h4 : ¬ (R_submit F1 G1 A1 B1 (0 : Int32) (1 : Int32)).1 = (1 : Int32) → Q (some (.int (0 : Int32))) (sl, sv, [(15, (R_submit F1 G1 A1 B1 (0 : Int32) (1 : Int32)).2.1, (R_submit F1 G1 A1 B1 (0 : Int32) (1 : Int32)).2.2.1, (R_submit F1 G1 A1 B1 (0 : Int32) (1 : Int32)).2.2.2.1, (R_submit F1 G1 A1 B1 (0 : Int32) (1 : Int32)).2.2.2.2)])) :
    Wk l Z (MoL Z cdC "DominantShareL3" false) md_L_law 88 [.unset, .unset, .unset, .unset, .unset, .unset, .val (.int v6), .val (.int v7), .val (.int v8), .val (.int v9), .val (.int v10), .val (.int v11), .val (.ref 1), .unset, .unset, .unset, .unset, .unset, .unset, .unset, .unset, .unset, .unset, .unset, .unset] [] (sl, sv, [(15, F1, G1, A1, B1)]) 16 324 Q := by
  refine Wk.aload o_L_law_88 rfl ?_
  refine Wk.iconst o_L_law_90 (z := (0 : Int32)) (by decide) ?_
  refine Wk.iconst o_L_law_91 (z := (1 : Int32)) (by decide) ?_
  refine Wk.callLF (coC H) [.int (0 : Int32), .int (1 : Int32)] 0 [] (i' := 1) (H.w 75 rfl) (cv_submit H) o_L_law_92 (run_submit H F1 G1 A1 B1 (0 : Int32) (1 : Int32) s1) (wt := 0) (cu' := 16) (su' := 324) (by decide) trivial rfl rfl rfl rfl rfl rfl rfl rfl rfl rfl (ws' := [(15, (R_submit F1 G1 A1 B1 (0 : Int32) (1 : Int32)).2.1, (R_submit F1 G1 A1 B1 (0 : Int32) (1 : Int32)).2.2.1, (R_submit F1 G1 A1 B1 (0 : Int32) (1 : Int32)).2.2.2.1, (R_submit F1 G1 A1 B1 (0 : Int32) (1 : Int32)).2.2.2.2)]) rfl ?_
  refine Wk.iconst o_L_law_95 (z := (1 : Int32)) (by decide) ?_
  refine Wk.icmp_eq o_L_law_96 (fun q2 => ?_) (fun q2 => ?_)
  · exact (h3 q2)
  · refine Wk.iconst o_L_law_99 (z := (0 : Int32)) (by decide) ?_
    exact Wk.zreturn mrL rfl o_L_law_100 rfl (by decide) (by decide) (y := (0 : Int32)) (by decide) (h4 q2)

set_option maxRecDepth 65536 in
set_option maxHeartbeats 4000000 in
theorem wp_L_law_101 {l : Launch} {Z : State} {a0 : Array Value} (H : OK Z a0) (sl : Int32) (sv : Int32 → Int32) (F1 : Nat → Int32) (G1 : Nat → Int64) (A1 : Nat → Int32 → Int32) (B1 : Nat → Int32 → Int64) (v6 : Int32) (v7 : Int32) (v8 : Int32) (v9 : Int32) (v10 : Int32) (v11 : Int32) {Q : Option Value → WL → Prop} (s1 : (en_submit F1 G1 A1 B1 (0 : Int32) (1 : Int32)).isSome = true) (h3 : (R_submit F1 G1 A1 B1 (0 : Int32) (1 : Int32)).1 = (2 : Int32) → Wk l Z (MoL Z cdC "DominantShareL3" false) md_L_law 114 [.unset, .unset, .unset, .unset, .unset, .unset, .val (.int v6), .val (.int v7), .val (.int v8), .val (.int v9), .val (.int v10), .val (.int v11), .val (.ref 1), .unset, .unset, .unset, .unset, .unset, .unset, .unset, .unset, .unset, .unset, .unset, .unset] [] (sl, sv, [(15, (R_submit F1 G1 A1 B1 (0 : Int32) (1 : Int32)).2.1, (R_submit F1 G1 A1 B1 (0 : Int32) (1 : Int32)).2.2.1, (R_submit F1 G1 A1 B1 (0 : Int32) (1 : Int32)).2.2.2.1, (R_submit F1 G1 A1 B1 (0 : Int32) (1 : Int32)).2.2.2.2)]) 16 324 Q) (h4 : ¬ (R_submit F1 G1 A1 B1 (0 : Int32) (1 : Int32)).1 = (2 : Int32) → Q (some (.int (0 : Int32))) (sl, sv, [(15, (R_submit F1 G1 A1 B1 (0 : Int32) (1 : Int32)).2.1, (R_submit F1 G1 A1 B1 (0 : Int32) (1 : Int32)).2.2.1, (R_submit F1 G1 A1 B1 (0 : Int32) (1 : Int32)).2.2.2.1, (R_submit F1 G1 A1 B1 (0 : Int32) (1 : Int32)).2.2.2.2)])) :
    Wk l Z (MoL Z cdC "DominantShareL3" false) md_L_law 101 [.unset, .unset, .unset, .unset, .unset, .unset, .val (.int v6), .val (.int v7), .val (.int v8), .val (.int v9), .val (.int v10), .val (.int v11), .val (.ref 1), .unset, .unset, .unset, .unset, .unset, .unset, .unset, .unset, .unset, .unset, .unset, .unset] [] (sl, sv, [(15, F1, G1, A1, B1)]) 16 324 Q := by
  refine Wk.aload o_L_law_101 rfl ?_
  refine Wk.iconst o_L_law_103 (z := (0 : Int32)) (by decide) ?_
  refine Wk.iconst o_L_law_104 (z := (1 : Int32)) (by decide) ?_
  refine Wk.callLF (coC H) [.int (0 : Int32), .int (1 : Int32)] 0 [] (i' := 1) (H.w 75 rfl) (cv_submit H) o_L_law_105 (run_submit H F1 G1 A1 B1 (0 : Int32) (1 : Int32) s1) (wt := 0) (cu' := 16) (su' := 324) (by decide) trivial rfl rfl rfl rfl rfl rfl rfl rfl rfl rfl (ws' := [(15, (R_submit F1 G1 A1 B1 (0 : Int32) (1 : Int32)).2.1, (R_submit F1 G1 A1 B1 (0 : Int32) (1 : Int32)).2.2.1, (R_submit F1 G1 A1 B1 (0 : Int32) (1 : Int32)).2.2.2.1, (R_submit F1 G1 A1 B1 (0 : Int32) (1 : Int32)).2.2.2.2)]) rfl ?_
  refine Wk.iconst o_L_law_108 (z := (2 : Int32)) (by decide) ?_
  refine Wk.icmp_eq o_L_law_109 (fun q2 => ?_) (fun q2 => ?_)
  · exact (h3 q2)
  · refine Wk.iconst o_L_law_112 (z := (0 : Int32)) (by decide) ?_
    exact Wk.zreturn mrL rfl o_L_law_113 rfl (by decide) (by decide) (y := (0 : Int32)) (by decide) (h4 q2)

set_option maxRecDepth 65536 in
set_option maxHeartbeats 4000000 in
theorem wp_L_law_114 {l : Launch} {Z : State} {a0 : Array Value} (H : OK Z a0) (sl : Int32) (sv : Int32 → Int32) (F1 : Nat → Int32) (G1 : Nat → Int64) (A1 : Nat → Int32 → Int32) (B1 : Nat → Int32 → Int64) (v6 : Int32) (v7 : Int32) (v8 : Int32) (v9 : Int32) (v10 : Int32) (v11 : Int32) {Q : Option Value → WL → Prop} (h2 : ¬ (f_stage v10 v11 (0 : Int32)) = 0 → Wk l Z (MoL Z cdC "DominantShareL3" false) md_L_law 129 [.unset, .unset, .unset, .unset, .unset, .unset, .val (.int v6), .val (.int v7), .val (.int v8), .val (.int v9), .val (.int v10), .val (.int v11), .val (.ref 1), .unset, .unset, .unset, .unset, .unset, .unset, .unset, .unset, .unset, .unset, .unset, .unset] [] (sl, sv, [(15, F1, G1, (A_stage A1 v10 v11 (0 : Int32)), B1)]) 16 324 Q) (h3 : (f_stage v10 v11 (0 : Int32)) = 0 → Q (some (.int (0 : Int32))) (sl, sv, [(15, F1, G1, (A_stage A1 v10 v11 (0 : Int32)), B1)])) :
    Wk l Z (MoL Z cdC "DominantShareL3" false) md_L_law 114 [.unset, .unset, .unset, .unset, .unset, .unset, .val (.int v6), .val (.int v7), .val (.int v8), .val (.int v9), .val (.int v10), .val (.int v11), .val (.ref 1), .unset, .unset, .unset, .unset, .unset, .unset, .unset, .unset, .unset, .unset, .unset, .unset] [] (sl, sv, [(15, F1, G1, A1, B1)]) 16 324 Q := by
  refine Wk.aload o_L_law_114 rfl ?_
  refine Wk.iload o_L_law_116 rfl ?_
  refine Wk.iload o_L_law_118 rfl ?_
  refine Wk.iconst o_L_law_120 (z := (0 : Int32)) (by decide) ?_
  refine Wk.callLF (coC H) [.int v10, .int v11, .int (0 : Int32)] 0 [] (i' := 1) (H.w 66 rfl) (cv_stage H) o_L_law_121 (run_stage H F1 G1 A1 B1 v10 v11 (0 : Int32)) (wt := 0) (cu' := 16) (su' := 324) (by decide) trivial rfl rfl rfl rfl rfl rfl rfl rfl rfl rfl (ws' := [(15, F1, G1, (A_stage A1 v10 v11 (0 : Int32)), B1)]) rfl ?_
  refine Wk.if_ne o_L_law_124 (fun q1 => ?_) (fun q1 => ?_)
  · exact (h2 q1)
  · refine Wk.iconst o_L_law_127 (z := (0 : Int32)) (by decide) ?_
    exact Wk.zreturn mrL rfl o_L_law_128 rfl (by decide) (by decide) (y := (0 : Int32)) (by decide) (h3 q1)

set_option maxRecDepth 65536 in
set_option maxHeartbeats 4000000 in
theorem wp_L_law_129 {l : Launch} {Z : State} {a0 : Array Value} (H : OK Z a0) (sl : Int32) (sv : Int32 → Int32) (F1 : Nat → Int32) (G1 : Nat → Int64) (A1 : Nat → Int32 → Int32) (B1 : Nat → Int32 → Int64) (v6 : Int32) (v7 : Int32) (v8 : Int32) (v9 : Int32) (v10 : Int32) (v11 : Int32) {Q : Option Value → WL → Prop} (s1 : (en_submit F1 G1 A1 B1 (1 : Int32) (1 : Int32)).isSome = true) (h3 : (R_submit F1 G1 A1 B1 (1 : Int32) (1 : Int32)).1 = (3 : Int32) → Wk l Z (MoL Z cdC "DominantShareL3" false) md_L_law 142 [.unset, .unset, .unset, .unset, .unset, .unset, .val (.int v6), .val (.int v7), .val (.int v8), .val (.int v9), .val (.int v10), .val (.int v11), .val (.ref 1), .unset, .unset, .unset, .unset, .unset, .unset, .unset, .unset, .unset, .unset, .unset, .unset] [] (sl, sv, [(15, (R_submit F1 G1 A1 B1 (1 : Int32) (1 : Int32)).2.1, (R_submit F1 G1 A1 B1 (1 : Int32) (1 : Int32)).2.2.1, (R_submit F1 G1 A1 B1 (1 : Int32) (1 : Int32)).2.2.2.1, (R_submit F1 G1 A1 B1 (1 : Int32) (1 : Int32)).2.2.2.2)]) 16 324 Q) (h4 : ¬ (R_submit F1 G1 A1 B1 (1 : Int32) (1 : Int32)).1 = (3 : Int32) → Q (some (.int (0 : Int32))) (sl, sv, [(15, (R_submit F1 G1 A1 B1 (1 : Int32) (1 : Int32)).2.1, (R_submit F1 G1 A1 B1 (1 : Int32) (1 : Int32)).2.2.1, (R_submit F1 G1 A1 B1 (1 : Int32) (1 : Int32)).2.2.2.1, (R_submit F1 G1 A1 B1 (1 : Int32) (1 : Int32)).2.2.2.2)])) :
    Wk l Z (MoL Z cdC "DominantShareL3" false) md_L_law 129 [.unset, .unset, .unset, .unset, .unset, .unset, .val (.int v6), .val (.int v7), .val (.int v8), .val (.int v9), .val (.int v10), .val (.int v11), .val (.ref 1), .unset, .unset, .unset, .unset, .unset, .unset, .unset, .unset, .unset, .unset, .unset, .unset] [] (sl, sv, [(15, F1, G1, A1, B1)]) 16 324 Q := by
  refine Wk.aload o_L_law_129 rfl ?_
  refine Wk.iconst o_L_law_131 (z := (1 : Int32)) (by decide) ?_
  refine Wk.iconst o_L_law_132 (z := (1 : Int32)) (by decide) ?_
  refine Wk.callLF (coC H) [.int (1 : Int32), .int (1 : Int32)] 0 [] (i' := 1) (H.w 75 rfl) (cv_submit H) o_L_law_133 (run_submit H F1 G1 A1 B1 (1 : Int32) (1 : Int32) s1) (wt := 0) (cu' := 16) (su' := 324) (by decide) trivial rfl rfl rfl rfl rfl rfl rfl rfl rfl rfl (ws' := [(15, (R_submit F1 G1 A1 B1 (1 : Int32) (1 : Int32)).2.1, (R_submit F1 G1 A1 B1 (1 : Int32) (1 : Int32)).2.2.1, (R_submit F1 G1 A1 B1 (1 : Int32) (1 : Int32)).2.2.2.1, (R_submit F1 G1 A1 B1 (1 : Int32) (1 : Int32)).2.2.2.2)]) rfl ?_
  refine Wk.iconst o_L_law_136 (z := (3 : Int32)) (by decide) ?_
  refine Wk.icmp_eq o_L_law_137 (fun q2 => ?_) (fun q2 => ?_)
  · exact (h3 q2)
  · refine Wk.iconst o_L_law_140 (z := (0 : Int32)) (by decide) ?_
    exact Wk.zreturn mrL rfl o_L_law_141 rfl (by decide) (by decide) (y := (0 : Int32)) (by decide) (h4 q2)

set_option maxRecDepth 65536 in
set_option maxHeartbeats 4000000 in
theorem wp_L_law_142 {l : Launch} {Z : State} {a0 : Array Value} (H : OK Z a0) (sl : Int32) (sv : Int32 → Int32) (F1 : Nat → Int32) (G1 : Nat → Int64) (A1 : Nat → Int32 → Int32) (B1 : Nat → Int32 → Int64) (v6 : Int32) (v7 : Int32) (v8 : Int32) (v9 : Int32) (v10 : Int32) (v11 : Int32) {Q : Option Value → WL → Prop} (s1 : (en_submit F1 G1 A1 B1 (1 : Int32) (1 : Int32)).isSome = true) (h3 : (R_submit F1 G1 A1 B1 (1 : Int32) (1 : Int32)).1 = (4 : Int32) → Wk l Z (MoL Z cdC "DominantShareL3" false) md_L_law 155 [.unset, .unset, .unset, .unset, .unset, .unset, .val (.int v6), .val (.int v7), .val (.int v8), .val (.int v9), .val (.int v10), .val (.int v11), .val (.ref 1), .unset, .unset, .unset, .unset, .unset, .unset, .unset, .unset, .unset, .unset, .unset, .unset] [] (sl, sv, [(15, (R_submit F1 G1 A1 B1 (1 : Int32) (1 : Int32)).2.1, (R_submit F1 G1 A1 B1 (1 : Int32) (1 : Int32)).2.2.1, (R_submit F1 G1 A1 B1 (1 : Int32) (1 : Int32)).2.2.2.1, (R_submit F1 G1 A1 B1 (1 : Int32) (1 : Int32)).2.2.2.2)]) 16 324 Q) (h4 : ¬ (R_submit F1 G1 A1 B1 (1 : Int32) (1 : Int32)).1 = (4 : Int32) → Q (some (.int (0 : Int32))) (sl, sv, [(15, (R_submit F1 G1 A1 B1 (1 : Int32) (1 : Int32)).2.1, (R_submit F1 G1 A1 B1 (1 : Int32) (1 : Int32)).2.2.1, (R_submit F1 G1 A1 B1 (1 : Int32) (1 : Int32)).2.2.2.1, (R_submit F1 G1 A1 B1 (1 : Int32) (1 : Int32)).2.2.2.2)])) :
    Wk l Z (MoL Z cdC "DominantShareL3" false) md_L_law 142 [.unset, .unset, .unset, .unset, .unset, .unset, .val (.int v6), .val (.int v7), .val (.int v8), .val (.int v9), .val (.int v10), .val (.int v11), .val (.ref 1), .unset, .unset, .unset, .unset, .unset, .unset, .unset, .unset, .unset, .unset, .unset, .unset] [] (sl, sv, [(15, F1, G1, A1, B1)]) 16 324 Q := by
  refine Wk.aload o_L_law_142 rfl ?_
  refine Wk.iconst o_L_law_144 (z := (1 : Int32)) (by decide) ?_
  refine Wk.iconst o_L_law_145 (z := (1 : Int32)) (by decide) ?_
  refine Wk.callLF (coC H) [.int (1 : Int32), .int (1 : Int32)] 0 [] (i' := 1) (H.w 75 rfl) (cv_submit H) o_L_law_146 (run_submit H F1 G1 A1 B1 (1 : Int32) (1 : Int32) s1) (wt := 0) (cu' := 16) (su' := 324) (by decide) trivial rfl rfl rfl rfl rfl rfl rfl rfl rfl rfl (ws' := [(15, (R_submit F1 G1 A1 B1 (1 : Int32) (1 : Int32)).2.1, (R_submit F1 G1 A1 B1 (1 : Int32) (1 : Int32)).2.2.1, (R_submit F1 G1 A1 B1 (1 : Int32) (1 : Int32)).2.2.2.1, (R_submit F1 G1 A1 B1 (1 : Int32) (1 : Int32)).2.2.2.2)]) rfl ?_
  refine Wk.iconst o_L_law_149 (z := (4 : Int32)) (by decide) ?_
  refine Wk.icmp_eq o_L_law_150 (fun q2 => ?_) (fun q2 => ?_)
  · exact (h3 q2)
  · refine Wk.iconst o_L_law_153 (z := (0 : Int32)) (by decide) ?_
    exact Wk.zreturn mrL rfl o_L_law_154 rfl (by decide) (by decide) (y := (0 : Int32)) (by decide) (h4 q2)

set_option maxRecDepth 65536 in
set_option maxHeartbeats 4000000 in
theorem wp_L_law_155 {l : Launch} {Z : State} {a0 : Array Value} (H : OK Z a0) (sl : Int32) (sv : Int32 → Int32) (F1 : Nat → Int32) (G1 : Nat → Int64) (A1 : Nat → Int32 → Int32) (B1 : Nat → Int32 → Int64) (v6 : Int32) (v7 : Int32) (v8 : Int32) (v9 : Int32) (v10 : Int32) (v11 : Int32) {Q : Option Value → WL → Prop} (s1 : (en_submit F1 G1 A1 B1 (1 : Int32) (1 : Int32)).isSome = true) (h3 : (R_submit F1 G1 A1 B1 (1 : Int32) (1 : Int32)).1 = (5 : Int32) → Wk l Z (MoL Z cdC "DominantShareL3" false) md_L_law 168 [.unset, .unset, .unset, .unset, .unset, .unset, .val (.int v6), .val (.int v7), .val (.int v8), .val (.int v9), .val (.int v10), .val (.int v11), .val (.ref 1), .unset, .unset, .unset, .unset, .unset, .unset, .unset, .unset, .unset, .unset, .unset, .unset] [] (sl, sv, [(15, (R_submit F1 G1 A1 B1 (1 : Int32) (1 : Int32)).2.1, (R_submit F1 G1 A1 B1 (1 : Int32) (1 : Int32)).2.2.1, (R_submit F1 G1 A1 B1 (1 : Int32) (1 : Int32)).2.2.2.1, (R_submit F1 G1 A1 B1 (1 : Int32) (1 : Int32)).2.2.2.2)]) 16 324 Q) (h4 : ¬ (R_submit F1 G1 A1 B1 (1 : Int32) (1 : Int32)).1 = (5 : Int32) → Q (some (.int (0 : Int32))) (sl, sv, [(15, (R_submit F1 G1 A1 B1 (1 : Int32) (1 : Int32)).2.1, (R_submit F1 G1 A1 B1 (1 : Int32) (1 : Int32)).2.2.1, (R_submit F1 G1 A1 B1 (1 : Int32) (1 : Int32)).2.2.2.1, (R_submit F1 G1 A1 B1 (1 : Int32) (1 : Int32)).2.2.2.2)])) :
    Wk l Z (MoL Z cdC "DominantShareL3" false) md_L_law 155 [.unset, .unset, .unset, .unset, .unset, .unset, .val (.int v6), .val (.int v7), .val (.int v8), .val (.int v9), .val (.int v10), .val (.int v11), .val (.ref 1), .unset, .unset, .unset, .unset, .unset, .unset, .unset, .unset, .unset, .unset, .unset, .unset] [] (sl, sv, [(15, F1, G1, A1, B1)]) 16 324 Q := by
  refine Wk.aload o_L_law_155 rfl ?_
  refine Wk.iconst o_L_law_157 (z := (1 : Int32)) (by decide) ?_
  refine Wk.iconst o_L_law_158 (z := (1 : Int32)) (by decide) ?_
  refine Wk.callLF (coC H) [.int (1 : Int32), .int (1 : Int32)] 0 [] (i' := 1) (H.w 75 rfl) (cv_submit H) o_L_law_159 (run_submit H F1 G1 A1 B1 (1 : Int32) (1 : Int32) s1) (wt := 0) (cu' := 16) (su' := 324) (by decide) trivial rfl rfl rfl rfl rfl rfl rfl rfl rfl rfl (ws' := [(15, (R_submit F1 G1 A1 B1 (1 : Int32) (1 : Int32)).2.1, (R_submit F1 G1 A1 B1 (1 : Int32) (1 : Int32)).2.2.1, (R_submit F1 G1 A1 B1 (1 : Int32) (1 : Int32)).2.2.2.1, (R_submit F1 G1 A1 B1 (1 : Int32) (1 : Int32)).2.2.2.2)]) rfl ?_
  refine Wk.iconst o_L_law_162 (z := (5 : Int32)) (by decide) ?_
  refine Wk.icmp_eq o_L_law_163 (fun q2 => ?_) (fun q2 => ?_)
  · exact (h3 q2)
  · refine Wk.iconst o_L_law_166 (z := (0 : Int32)) (by decide) ?_
    exact Wk.zreturn mrL rfl o_L_law_167 rfl (by decide) (by decide) (y := (0 : Int32)) (by decide) (h4 q2)

set_option maxRecDepth 65536 in
set_option maxHeartbeats 4000000 in
theorem wp_L_law_168 {l : Launch} {Z : State} {a0 : Array Value} (H : OK Z a0) (sl : Int32) (sv : Int32 → Int32) (F1 : Nat → Int32) (G1 : Nat → Int64) (A1 : Nat → Int32 → Int32) (B1 : Nat → Int32 → Int64) (v6 : Int32) (v7 : Int32) (v8 : Int32) (v9 : Int32) (v10 : Int32) (v11 : Int32) {Q : Option Value → WL → Prop} (h1 : Wk l Z (MoL Z cdC "DominantShareL3" false) md_L_law 183 [.unset, .unset, .unset, .unset, .unset, .unset, .val (.int v6), .val (.int v7), .val (.int v8), .val (.int v9), .val (.int v10), .val (.int v11), .val (.ref 1), .val (.int (0 : Int32)), .val (.int (0 : Int32)), .val (.int (0 : Int32)), .val (.int (0 : Int32)), .val (.int (0 : Int32)), .unset, .unset, .unset, .unset, .unset, .unset, .unset] [] (sl, sv, [(15, F1, G1, A1, B1)]) 16 324 Q) :
    Wk l Z (MoL Z cdC "DominantShareL3" false) md_L_law 168 [.unset, .unset, .unset, .unset, .unset, .unset, .val (.int v6), .val (.int v7), .val (.int v8), .val (.int v9), .val (.int v10), .val (.int v11), .val (.ref 1), .unset, .unset, .unset, .unset, .unset, .unset, .unset, .unset, .unset, .unset, .unset, .unset] [] (sl, sv, [(15, F1, G1, A1, B1)]) 16 324 Q := by
  refine Wk.iconst o_L_law_168 (z := (0 : Int32)) (by decide) ?_
  refine Wk.istore o_L_law_169 (Or.inl rfl) (L' := [.unset, .unset, .unset, .unset, .unset, .unset, .val (.int v6), .val (.int v7), .val (.int v8), .val (.int v9), .val (.int v10), .val (.int v11), .val (.ref 1), .val (.int (0 : Int32)), .unset, .unset, .unset, .unset, .unset, .unset, .unset, .unset, .unset, .unset, .unset]) rfl ?_
  refine Wk.iconst o_L_law_171 (z := (0 : Int32)) (by decide) ?_
  refine Wk.istore o_L_law_172 (Or.inl rfl) (L' := [.unset, .unset, .unset, .unset, .unset, .unset, .val (.int v6), .val (.int v7), .val (.int v8), .val (.int v9), .val (.int v10), .val (.int v11), .val (.ref 1), .val (.int (0 : Int32)), .val (.int (0 : Int32)), .unset, .unset, .unset, .unset, .unset, .unset, .unset, .unset, .unset, .unset]) rfl ?_
  refine Wk.iconst o_L_law_174 (z := (0 : Int32)) (by decide) ?_
  refine Wk.istore o_L_law_175 (Or.inl rfl) (L' := [.unset, .unset, .unset, .unset, .unset, .unset, .val (.int v6), .val (.int v7), .val (.int v8), .val (.int v9), .val (.int v10), .val (.int v11), .val (.ref 1), .val (.int (0 : Int32)), .val (.int (0 : Int32)), .val (.int (0 : Int32)), .unset, .unset, .unset, .unset, .unset, .unset, .unset, .unset, .unset]) rfl ?_
  refine Wk.iconst o_L_law_177 (z := (0 : Int32)) (by decide) ?_
  refine Wk.istore o_L_law_178 (Or.inl rfl) (L' := [.unset, .unset, .unset, .unset, .unset, .unset, .val (.int v6), .val (.int v7), .val (.int v8), .val (.int v9), .val (.int v10), .val (.int v11), .val (.ref 1), .val (.int (0 : Int32)), .val (.int (0 : Int32)), .val (.int (0 : Int32)), .val (.int (0 : Int32)), .unset, .unset, .unset, .unset, .unset, .unset, .unset, .unset]) rfl ?_
  refine Wk.iconst o_L_law_180 (z := (0 : Int32)) (by decide) ?_
  refine Wk.istore o_L_law_181 (Or.inl rfl) (L' := [.unset, .unset, .unset, .unset, .unset, .unset, .val (.int v6), .val (.int v7), .val (.int v8), .val (.int v9), .val (.int v10), .val (.int v11), .val (.ref 1), .val (.int (0 : Int32)), .val (.int (0 : Int32)), .val (.int (0 : Int32)), .val (.int (0 : Int32)), .val (.int (0 : Int32)), .unset, .unset, .unset, .unset, .unset, .unset, .unset]) rfl ?_
  exact h1

set_option maxRecDepth 65536 in
set_option maxHeartbeats 4000000 in
theorem wp_L_law_183 {l : Launch} {Z : State} {a0 : Array Value} (H : OK Z a0) (sl : Int32) (sv : Int32 → Int32) (F1 : Nat → Int32) (G1 : Nat → Int64) (A1 : Nat → Int32 → Int32) (B1 : Nat → Int32 → Int64) (v6 : Int32) (v7 : Int32) (v8 : Int32) (v9 : Int32) (v10 : Int32) (v11 : Int32) (v13 : Int32) (v14 : Int32) (v15 : Int32) (v16 : Int32) (v17 : Int32) {Q : Option Value → WL → Prop} (s2 : ¬ v17 < (8 : Int32) → (en_used A1 (0 : Int32)).isSome = true) (h4 : ¬ v17 < (8 : Int32) → ¬ (R_used A1 (0 : Int32)) = v15 → Q (some (.int (0 : Int32))) (sl, sv, [(15, F1, G1, A1, B1)])) (s5 : ¬ v17 < (8 : Int32) → (R_used A1 (0 : Int32)) = v15 → (en_used A1 (1 : Int32)).isSome = true) (s7 : ¬ v17 < (8 : Int32) → (R_used A1 (0 : Int32)) = v15 → (R_used A1 (1 : Int32)) = v16 → (en_userAlloc F1 A1 (0 : Int32) (0 : Int32)).isSome = true) (h9 : ¬ v17 < (8 : Int32) → (R_used A1 (0 : Int32)) = v15 → (R_used A1 (1 : Int32)) = v16 → ¬ (R_userAlloc F1 A1 (0 : Int32) (0 : Int32)) = (v13 * v8) → Q (some (.int (0 : Int32))) (sl, sv, [(15, F1, G1, A1, B1)])) (s10 : ¬ v17 < (8 : Int32) → (R_used A1 (0 : Int32)) = v15 → (R_used A1 (1 : Int32)) = v16 → (R_userAlloc F1 A1 (0 : Int32) (0 : Int32)) = (v13 * v8) → (en_userAlloc F1 A1 (0 : Int32) (1 : Int32)).isSome = true) (s12 : ¬ v17 < (8 : Int32) → (R_used A1 (0 : Int32)) = v15 → (R_used A1 (1 : Int32)) = v16 → (R_userAlloc F1 A1 (0 : Int32) (0 : Int32)) = (v13 * v8) → (R_userAlloc F1 A1 (0 : Int32) (1 : Int32)) = (v13 * v9) → (en_userAlloc F1 A1 (1 : Int32) (0 : Int32)).isSome = true) (h14 : ¬ v17 < (8 : Int32) → (R_used A1 (0 : Int32)) = v15 → (R_used A1 (1 : Int32)) = v16 → (R_userAlloc F1 A1 (0 : Int32) (0 : Int32)) = (v13 * v8) → (R_userAlloc F1 A1 (0 : Int32) (1 : Int32)) = (v13 * v9) → ¬ (R_userAlloc F1 A1 (1 : Int32) (0 : Int32)) = (v14 * v10) → Q (some (.int (0 : Int32))) (sl, sv, [(15, F1, G1, A1, B1)])) (s15 : ¬ v17 < (8 : Int32) → (R_used A1 (0 : Int32)) = v15 → (R_used A1 (1 : Int32)) = v16 → (R_userAlloc F1 A1 (0 : Int32) (0 : Int32)) = (v13 * v8) → (R_userAlloc F1 A1 (0 : Int32) (1 : Int32)) = (v13 * v9) → (R_userAlloc F1 A1 (1 : Int32) (0 : Int32)) = (v14 * v10) → (en_userAlloc F1 A1 (1 : Int32) (1 : Int32)).isSome = true) (s21 : ¬ v17 < (8 : Int32) → (R_used A1 (0 : Int32)) = v15 → (R_used A1 (1 : Int32)) = v16 → (R_userAlloc F1 A1 (0 : Int32) (0 : Int32)) = (v13 * v8) → (R_userAlloc F1 A1 (0 : Int32) (1 : Int32)) = (v13 * v9) → (R_userAlloc F1 A1 (1 : Int32) (0 : Int32)) = (v14 * v10) → (R_userAlloc F1 A1 (1 : Int32) (1 : Int32)) = (v14 * v11) → (en_compareShares F1 A1 (0 : Int32) (1 : Int32)).isSome = true) (h24 : ¬ v17 < (8 : Int32) → (R_used A1 (0 : Int32)) = v15 → (R_used A1 (1 : Int32)) = v16 → (R_userAlloc F1 A1 (0 : Int32) (0 : Int32)) = (v13 * v8) → (R_userAlloc F1 A1 (0 : Int32) (1 : Int32)) = (v13 * v9) → (R_userAlloc F1 A1 (1 : Int32) (0 : Int32)) = (v14 * v10) → (R_userAlloc F1 A1 (1 : Int32) (1 : Int32)) = (v14 * v11) → Q (some (.int (nar .boolean (if (R_compareShares F1 A1 (0 : Int32) (1 : Int32)) = (if (XT.cmpL (f_L_dom ((v13 * v8).toInt64) ((v13 * v9).toInt64) ((v6).toInt64) ((v7).toInt64)) (f_L_dom ((v14 * v10).toInt64) ((v14 * v11).toInt64) ((v6).toInt64) ((v7).toInt64))) < 0 then (-1 : Int32) else (if 0 < (XT.cmpL (f_L_dom ((v13 * v8).toInt64) ((v13 * v9).toInt64) ((v6).toInt64) ((v7).toInt64)) (f_L_dom ((v14 * v10).toInt64) ((v14 * v11).toInt64) ((v6).toInt64) ((v7).toInt64))) then (1 : Int32) else (0 : Int32))) then (1 : Int32) else (0 : Int32))))) (sl, sv, [(15, F1, G1, A1, B1)])) (h25 : ¬ v17 < (8 : Int32) → (R_used A1 (0 : Int32)) = v15 → (R_used A1 (1 : Int32)) = v16 → (R_userAlloc F1 A1 (0 : Int32) (0 : Int32)) = (v13 * v8) → (R_userAlloc F1 A1 (0 : Int32) (1 : Int32)) = (v13 * v9) → (R_userAlloc F1 A1 (1 : Int32) (0 : Int32)) = (v14 * v10) → ¬ (R_userAlloc F1 A1 (1 : Int32) (1 : Int32)) = (v14 * v11) → Q (some (.int (0 : Int32))) (sl, sv, [(15, F1, G1, A1, B1)])) (h26 : ¬ v17 < (8 : Int32) → (R_used A1 (0 : Int32)) = v15 → (R_used A1 (1 : Int32)) = v16 → (R_userAlloc F1 A1 (0 : Int32) (0 : Int32)) = (v13 * v8) → ¬ (R_userAlloc F1 A1 (0 : Int32) (1 : Int32)) = (v13 * v9) → Q (some (.int (0 : Int32))) (sl, sv, [(15, F1, G1, A1, B1)])) (h27 : ¬ v17 < (8 : Int32) → (R_used A1 (0 : Int32)) = v15 → ¬ (R_used A1 (1 : Int32)) = v16 → Q (some (.int (0 : Int32))) (sl, sv, [(15, F1, G1, A1, B1)])) (h34 : v17 < (8 : Int32) → Wk l Z (MoL Z cdC "DominantShareL3" false) md_L_law 223 [.unset, .unset, .unset, .unset, .unset, .unset, .val (.int v6), .val (.int v7), .val (.int v8), .val (.int v9), .val (.int v10), .val (.int v11), .val (.ref 1), .val (.int v13), .val (.int v14), .val (.int v15), .val (.int v16), .val (.int v17), .val (.int (if v13 < (3 : Int32) then (if (v6 - v15) < v8 then (0 : Int32) else (if (v7 - v16) < v9 then (0 : Int32) else (1 : Int32))) else (0 : Int32))), .unset, .unset, .unset, .unset, .unset, .unset] [] (sl, sv, [(15, F1, G1, A1, B1)]) 16 324 Q) :
    Wk l Z (MoL Z cdC "DominantShareL3" false) md_L_law 183 [.unset, .unset, .unset, .unset, .unset, .unset, .val (.int v6), .val (.int v7), .val (.int v8), .val (.int v9), .val (.int v10), .val (.int v11), .val (.ref 1), .val (.int v13), .val (.int v14), .val (.int v15), .val (.int v16), .val (.int v17), .unset, .unset, .unset, .unset, .unset, .unset, .unset] [] (sl, sv, [(15, F1, G1, A1, B1)]) 16 324 Q := by
  refine Wk.iload o_L_law_183 rfl ?_
  refine Wk.bipush o_L_law_185 (z := (8 : Int32)) (by decide) ?_
  refine Wk.icmp_ge o_L_law_187 (fun q1 => ?_) (fun q1 => ?_)
  · refine Wk.aload o_L_law_444 rfl ?_
    refine Wk.iconst o_L_law_446 (z := (0 : Int32)) (by decide) ?_
    refine Wk.callLF (coC H) [.int (0 : Int32)] 0 [] (i' := 1) (H.w 185 rfl) (cv_used H) o_L_law_447 (run_used H F1 G1 A1 B1 (0 : Int32) (s2 q1)) (wt := 0) (cu' := 16) (su' := 324) (by decide) trivial rfl rfl rfl rfl rfl rfl rfl rfl rfl rfl (ws' := [(15, F1, G1, A1, B1)]) rfl ?_
    refine Wk.iload o_L_law_450 rfl ?_
    refine Wk.icmp_ne o_L_law_452 (fun q3 => ?_) (fun q3 => ?_)
    · refine Wk.iconst o_L_law_466 (z := (0 : Int32)) (by decide) ?_
      exact Wk.zreturn mrL rfl o_L_law_467 rfl (by decide) (by decide) (y := (0 : Int32)) (by decide) (h4 q1 q3)
    · refine Wk.aload o_L_law_455 rfl ?_
      refine Wk.iconst o_L_law_457 (z := (1 : Int32)) (by decide) ?_
      refine Wk.callLF (coC H) [.int (1 : Int32)] 0 [] (i' := 1) (H.w 185 rfl) (cv_used H) o_L_law_458 (run_used H F1 G1 A1 B1 (1 : Int32) (s5 q1 q3)) (wt := 0) (cu' := 16) (su' := 324) (by decide) trivial rfl rfl rfl rfl rfl rfl rfl rfl rfl rfl (ws' := [(15, F1, G1, A1, B1)]) rfl ?_
      refine Wk.iload o_L_law_461 rfl ?_
      refine Wk.icmp_eq o_L_law_463 (fun q6 => ?_) (fun q6 => ?_)
      · refine Wk.aload o_L_law_468 rfl ?_
        refine Wk.iconst o_L_law_470 (z := (0 : Int32)) (by decide) ?_
        refine Wk.iconst o_L_law_471 (z := (0 : Int32)) (by decide) ?_
        refine Wk.callLF (coC H) [.int (0 : Int32), .int (0 : Int32)] 0 [] (i' := 1) (H.w 194 rfl) (cv_userAlloc H) o_L_law_472 (run_userAlloc H F1 G1 A1 B1 (0 : Int32) (0 : Int32) (s7 q1 q3 q6)) (wt := 0) (cu' := 16) (su' := 324) (by decide) trivial rfl rfl rfl rfl rfl rfl rfl rfl rfl rfl (ws' := [(15, F1, G1, A1, B1)]) rfl ?_
        refine Wk.iload o_L_law_475 rfl ?_
        refine Wk.iload o_L_law_477 rfl ?_
        refine Wk.imul o_L_law_479 ?_
        refine Wk.icmp_ne o_L_law_480 (fun q8 => ?_) (fun q8 => ?_)
        · refine Wk.iconst o_L_law_498 (z := (0 : Int32)) (by decide) ?_
          exact Wk.zreturn mrL rfl o_L_law_499 rfl (by decide) (by decide) (y := (0 : Int32)) (by decide) (h9 q1 q3 q6 q8)
        · refine Wk.aload o_L_law_483 rfl ?_
          refine Wk.iconst o_L_law_485 (z := (0 : Int32)) (by decide) ?_
          refine Wk.iconst o_L_law_486 (z := (1 : Int32)) (by decide) ?_
          refine Wk.callLF (coC H) [.int (0 : Int32), .int (1 : Int32)] 0 [] (i' := 1) (H.w 194 rfl) (cv_userAlloc H) o_L_law_487 (run_userAlloc H F1 G1 A1 B1 (0 : Int32) (1 : Int32) (s10 q1 q3 q6 q8)) (wt := 0) (cu' := 16) (su' := 324) (by decide) trivial rfl rfl rfl rfl rfl rfl rfl rfl rfl rfl (ws' := [(15, F1, G1, A1, B1)]) rfl ?_
          refine Wk.iload o_L_law_490 rfl ?_
          refine Wk.iload o_L_law_492 rfl ?_
          refine Wk.imul o_L_law_494 ?_
          refine Wk.icmp_eq o_L_law_495 (fun q11 => ?_) (fun q11 => ?_)
          · refine Wk.aload o_L_law_500 rfl ?_
            refine Wk.iconst o_L_law_502 (z := (1 : Int32)) (by decide) ?_
            refine Wk.iconst o_L_law_503 (z := (0 : Int32)) (by decide) ?_
            refine Wk.callLF (coC H) [.int (1 : Int32), .int (0 : Int32)] 0 [] (i' := 1) (H.w 194 rfl) (cv_userAlloc H) o_L_law_504 (run_userAlloc H F1 G1 A1 B1 (1 : Int32) (0 : Int32) (s12 q1 q3 q6 q8 q11)) (wt := 0) (cu' := 16) (su' := 324) (by decide) trivial rfl rfl rfl rfl rfl rfl rfl rfl rfl rfl (ws' := [(15, F1, G1, A1, B1)]) rfl ?_
            refine Wk.iload o_L_law_507 rfl ?_
            refine Wk.iload o_L_law_509 rfl ?_
            refine Wk.imul o_L_law_511 ?_
            refine Wk.icmp_ne o_L_law_512 (fun q13 => ?_) (fun q13 => ?_)
            · refine Wk.iconst o_L_law_530 (z := (0 : Int32)) (by decide) ?_
              exact Wk.zreturn mrL rfl o_L_law_531 rfl (by decide) (by decide) (y := (0 : Int32)) (by decide) (h14 q1 q3 q6 q8 q11 q13)
            · refine Wk.aload o_L_law_515 rfl ?_
              refine Wk.iconst o_L_law_517 (z := (1 : Int32)) (by decide) ?_
              refine Wk.iconst o_L_law_518 (z := (1 : Int32)) (by decide) ?_
              refine Wk.callLF (coC H) [.int (1 : Int32), .int (1 : Int32)] 0 [] (i' := 1) (H.w 194 rfl) (cv_userAlloc H) o_L_law_519 (run_userAlloc H F1 G1 A1 B1 (1 : Int32) (1 : Int32) (s15 q1 q3 q6 q8 q11 q13)) (wt := 0) (cu' := 16) (su' := 324) (by decide) trivial rfl rfl rfl rfl rfl rfl rfl rfl rfl rfl (ws' := [(15, F1, G1, A1, B1)]) rfl ?_
              refine Wk.iload o_L_law_522 rfl ?_
              refine Wk.iload o_L_law_524 rfl ?_
              refine Wk.imul o_L_law_526 ?_
              refine Wk.icmp_eq o_L_law_527 (fun q16 => ?_) (fun q16 => ?_)
              · refine Wk.iload o_L_law_532 rfl ?_
                refine Wk.iload o_L_law_534 rfl ?_
                refine Wk.imul o_L_law_536 ?_
                refine Wk.i2l o_L_law_537 ?_
                refine Wk.iload o_L_law_538 rfl ?_
                refine Wk.iload o_L_law_540 rfl ?_
                refine Wk.imul o_L_law_542 ?_
                refine Wk.i2l o_L_law_543 ?_
                refine Wk.iload o_L_law_544 rfl ?_
                refine Wk.i2l o_L_law_546 ?_
                refine Wk.iload o_L_law_547 rfl ?_
                refine Wk.i2l o_L_law_549 ?_
                refine Wk.callSF mtL [.long ((v13 * v8).toInt64), .long ((v13 * v9).toInt64), .long ((v6).toInt64), .long ((v7).toInt64)] [] (H.w 136 rfl) (cv_L_dom H) o_L_law_550 (run_L_dom H sl sv [(15, F1, G1, A1, B1)] ((v13 * v8).toInt64) ((v13 * v9).toInt64) ((v6).toInt64) ((v7).toInt64)) (wt := 0) (cu' := 16) (su' := 324) (by decide) rfl rfl (al_L_dom _ _ _ _) rfl rfl rfl ?_
                refine Wk.lstore o_L_law_553 (Or.inr ⟨_, rfl, rfl⟩) (Or.inl rfl) (L' := [.unset, .unset, .unset, .unset, .unset, .unset, .val (.int v6), .val (.int v7), .val (.int v8), .val (.int v9), .val (.int v10), .val (.int v11), .val (.ref 1), .val (.int v13), .val (.int v14), .val (.int v15), .val (.int v16), .val (.long (f_L_dom ((v13 * v8).toInt64) ((v13 * v9).toInt64) ((v6).toInt64) ((v7).toInt64))), .second, .unset, .unset, .unset, .unset, .unset, .unset]) rfl ?_
                refine Wk.iload o_L_law_555 rfl ?_
                refine Wk.iload o_L_law_557 rfl ?_
                refine Wk.imul o_L_law_559 ?_
                refine Wk.i2l o_L_law_560 ?_
                refine Wk.iload o_L_law_561 rfl ?_
                refine Wk.iload o_L_law_563 rfl ?_
                refine Wk.imul o_L_law_565 ?_
                refine Wk.i2l o_L_law_566 ?_
                refine Wk.iload o_L_law_567 rfl ?_
                refine Wk.i2l o_L_law_569 ?_
                refine Wk.iload o_L_law_570 rfl ?_
                refine Wk.i2l o_L_law_572 ?_
                refine Wk.callSF mtL [.long ((v14 * v10).toInt64), .long ((v14 * v11).toInt64), .long ((v6).toInt64), .long ((v7).toInt64)] [] (H.w 136 rfl) (cv_L_dom H) o_L_law_573 (run_L_dom H sl sv [(15, F1, G1, A1, B1)] ((v14 * v10).toInt64) ((v14 * v11).toInt64) ((v6).toInt64) ((v7).toInt64)) (wt := 0) (cu' := 16) (su' := 324) (by decide) rfl rfl (al_L_dom _ _ _ _) rfl rfl rfl ?_
                refine Wk.lstore o_L_law_576 (Or.inl rfl) (Or.inl rfl) (L' := [.unset, .unset, .unset, .unset, .unset, .unset, .val (.int v6), .val (.int v7), .val (.int v8), .val (.int v9), .val (.int v10), .val (.int v11), .val (.ref 1), .val (.int v13), .val (.int v14), .val (.int v15), .val (.int v16), .val (.long (f_L_dom ((v13 * v8).toInt64) ((v13 * v9).toInt64) ((v6).toInt64) ((v7).toInt64))), .second, .val (.long (f_L_dom ((v14 * v10).toInt64) ((v14 * v11).toInt64) ((v6).toInt64) ((v7).toInt64))), .second, .unset, .unset, .unset, .unset]) rfl ?_
                refine Wk.lload o_L_law_578 rfl ?_
                refine Wk.lload o_L_law_580 rfl ?_
                refine Wk.lcmp o_L_law_582 ?_
                have J20 : Wk l Z (MoL Z cdC "DominantShareL3" false) md_L_law 603 [.unset, .unset, .unset, .unset, .unset, .unset, .val (.int v6), .val (.int v7), .val (.int v8), .val (.int v9), .val (.int v10), .val (.int v11), .val (.ref 1), .val (.int v13), .val (.int v14), .val (.int v15), .val (.int v16), .val (.long (f_L_dom ((v13 * v8).toInt64) ((v13 * v9).toInt64) ((v6).toInt64) ((v7).toInt64))), .second, .val (.long (f_L_dom ((v14 * v10).toInt64) ((v14 * v11).toInt64) ((v6).toInt64) ((v7).toInt64))), .second, .unset, .unset, .unset, .unset] [.int (if (XT.cmpL (f_L_dom ((v13 * v8).toInt64) ((v13 * v9).toInt64) ((v6).toInt64) ((v7).toInt64)) (f_L_dom ((v14 * v10).toInt64) ((v14 * v11).toInt64) ((v6).toInt64) ((v7).toInt64))) < 0 then (-1 : Int32) else (if 0 < (XT.cmpL (f_L_dom ((v13 * v8).toInt64) ((v13 * v9).toInt64) ((v6).toInt64) ((v7).toInt64)) (f_L_dom ((v14 * v10).toInt64) ((v14 * v11).toInt64) ((v6).toInt64) ((v7).toInt64))) then (1 : Int32) else (0 : Int32)))] (sl, sv, [(15, F1, G1, A1, B1)]) 16 324 Q := by
                  refine Wk.istore o_L_law_603 (Or.inl rfl) (L' := [.unset, .unset, .unset, .unset, .unset, .unset, .val (.int v6), .val (.int v7), .val (.int v8), .val (.int v9), .val (.int v10), .val (.int v11), .val (.ref 1), .val (.int v13), .val (.int v14), .val (.int v15), .val (.int v16), .val (.long (f_L_dom ((v13 * v8).toInt64) ((v13 * v9).toInt64) ((v6).toInt64) ((v7).toInt64))), .second, .val (.long (f_L_dom ((v14 * v10).toInt64) ((v14 * v11).toInt64) ((v6).toInt64) ((v7).toInt64))), .second, .val (.int (if (XT.cmpL (f_L_dom ((v13 * v8).toInt64) ((v13 * v9).toInt64) ((v6).toInt64) ((v7).toInt64)) (f_L_dom ((v14 * v10).toInt64) ((v14 * v11).toInt64) ((v6).toInt64) ((v7).toInt64))) < 0 then (-1 : Int32) else (if 0 < (XT.cmpL (f_L_dom ((v13 * v8).toInt64) ((v13 * v9).toInt64) ((v6).toInt64) ((v7).toInt64)) (f_L_dom ((v14 * v10).toInt64) ((v14 * v11).toInt64) ((v6).toInt64) ((v7).toInt64))) then (1 : Int32) else (0 : Int32)))), .unset, .unset, .unset]) rfl ?_
                  refine Wk.aload o_L_law_605 rfl ?_
                  refine Wk.iconst o_L_law_607 (z := (0 : Int32)) (by decide) ?_
                  refine Wk.iconst o_L_law_608 (z := (1 : Int32)) (by decide) ?_
                  refine Wk.callLF (coC H) [.int (0 : Int32), .int (1 : Int32)] 0 [] (i' := 1) (H.w 199 rfl) (cv_compareShares H) o_L_law_609 (run_compareShares H F1 G1 A1 B1 (0 : Int32) (1 : Int32) (s21 q1 q3 q6 q8 q11 q13 q16)) (wt := 0) (cu' := 16) (su' := 324) (by decide) trivial rfl rfl rfl rfl rfl rfl rfl rfl rfl rfl (ws' := [(15, F1, G1, A1, B1)]) rfl ?_
                  refine Wk.iload o_L_law_612 rfl ?_
                  have J23 : Wk l Z (MoL Z cdC "DominantShareL3" false) md_L_law 622 [.unset, .unset, .unset, .unset, .unset, .unset, .val (.int v6), .val (.int v7), .val (.int v8), .val (.int v9), .val (.int v10), .val (.int v11), .val (.ref 1), .val (.int v13), .val (.int v14), .val (.int v15), .val (.int v16), .val (.long (f_L_dom ((v13 * v8).toInt64) ((v13 * v9).toInt64) ((v6).toInt64) ((v7).toInt64))), .second, .val (.long (f_L_dom ((v14 * v10).toInt64) ((v14 * v11).toInt64) ((v6).toInt64) ((v7).toInt64))), .second, .val (.int (if (XT.cmpL (f_L_dom ((v13 * v8).toInt64) ((v13 * v9).toInt64) ((v6).toInt64) ((v7).toInt64)) (f_L_dom ((v14 * v10).toInt64) ((v14 * v11).toInt64) ((v6).toInt64) ((v7).toInt64))) < 0 then (-1 : Int32) else (if 0 < (XT.cmpL (f_L_dom ((v13 * v8).toInt64) ((v13 * v9).toInt64) ((v6).toInt64) ((v7).toInt64)) (f_L_dom ((v14 * v10).toInt64) ((v14 * v11).toInt64) ((v6).toInt64) ((v7).toInt64))) then (1 : Int32) else (0 : Int32)))), .unset, .unset, .unset] [.int (if (R_compareShares F1 A1 (0 : Int32) (1 : Int32)) = (if (XT.cmpL (f_L_dom ((v13 * v8).toInt64) ((v13 * v9).toInt64) ((v6).toInt64) ((v7).toInt64)) (f_L_dom ((v14 * v10).toInt64) ((v14 * v11).toInt64) ((v6).toInt64) ((v7).toInt64))) < 0 then (-1 : Int32) else (if 0 < (XT.cmpL (f_L_dom ((v13 * v8).toInt64) ((v13 * v9).toInt64) ((v6).toInt64) ((v7).toInt64)) (f_L_dom ((v14 * v10).toInt64) ((v14 * v11).toInt64) ((v6).toInt64) ((v7).toInt64))) then (1 : Int32) else (0 : Int32))) then (1 : Int32) else (0 : Int32))] (sl, sv, [(15, F1, G1, A1, B1)]) 16 324 Q := by
                    exact Wk.zreturn mrL rfl o_L_law_622 rfl (by decide) (by decide) (y := (nar .boolean (if (R_compareShares F1 A1 (0 : Int32) (1 : Int32)) = (if (XT.cmpL (f_L_dom ((v13 * v8).toInt64) ((v13 * v9).toInt64) ((v6).toInt64) ((v7).toInt64)) (f_L_dom ((v14 * v10).toInt64) ((v14 * v11).toInt64) ((v6).toInt64) ((v7).toInt64))) < 0 then (-1 : Int32) else (if 0 < (XT.cmpL (f_L_dom ((v13 * v8).toInt64) ((v13 * v9).toInt64) ((v6).toInt64) ((v7).toInt64)) (f_L_dom ((v14 * v10).toInt64) ((v14 * v11).toInt64) ((v6).toInt64) ((v7).toInt64))) then (1 : Int32) else (0 : Int32))) then (1 : Int32) else (0 : Int32)))) rfl (h24 q1 q3 q6 q8 q11 q13 q16)
                  refine Wk.icmp_ne o_L_law_614 (fun q22 => ?_) (fun q22 => ?_)
                  · refine Wk.iconst o_L_law_621 (z := (0 : Int32)) (by decide) ?_
                    first | (rw [show ((if (R_compareShares F1 A1 (0 : Int32) (1 : Int32)) = (if (XT.cmpL (f_L_dom ((v13 * v8).toInt64) ((v13 * v9).toInt64) ((v6).toInt64) ((v7).toInt64)) (f_L_dom ((v14 * v10).toInt64) ((v14 * v11).toInt64) ((v6).toInt64) ((v7).toInt64))) < 0 then (-1 : Int32) else (if 0 < (XT.cmpL (f_L_dom ((v13 * v8).toInt64) ((v13 * v9).toInt64) ((v6).toInt64) ((v7).toInt64)) (f_L_dom ((v14 * v10).toInt64) ((v14 * v11).toInt64) ((v6).toInt64) ((v7).toInt64))) then (1 : Int32) else (0 : Int32))) then (1 : Int32) else (0 : Int32)) : Int32) = (0 : Int32) from if_neg q22] at J23; exact J23) | exact J23 | (simp only [if_neg q22] at J23 ⊢; exact J23)
                  · refine Wk.iconst o_L_law_617 (z := (1 : Int32)) (by decide) ?_
                    refine Wk.goto o_L_law_618 ?_
                    first | (rw [show ((if (R_compareShares F1 A1 (0 : Int32) (1 : Int32)) = (if (XT.cmpL (f_L_dom ((v13 * v8).toInt64) ((v13 * v9).toInt64) ((v6).toInt64) ((v7).toInt64)) (f_L_dom ((v14 * v10).toInt64) ((v14 * v11).toInt64) ((v6).toInt64) ((v7).toInt64))) < 0 then (-1 : Int32) else (if 0 < (XT.cmpL (f_L_dom ((v13 * v8).toInt64) ((v13 * v9).toInt64) ((v6).toInt64) ((v7).toInt64)) (f_L_dom ((v14 * v10).toInt64) ((v14 * v11).toInt64) ((v6).toInt64) ((v7).toInt64))) then (1 : Int32) else (0 : Int32))) then (1 : Int32) else (0 : Int32)) : Int32) = (1 : Int32) from if_pos q22] at J23; exact J23) | exact J23 | (simp only [if_pos q22] at J23 ⊢; exact J23)
                refine Wk.if_ge o_L_law_583 (fun q17 => ?_) (fun q17 => ?_)
                · refine Wk.lload o_L_law_590 rfl ?_
                  refine Wk.lload o_L_law_592 rfl ?_
                  refine Wk.lcmp o_L_law_594 ?_
                  refine Wk.if_le o_L_law_595 (fun q18 => ?_) (fun q18 => ?_)
                  · refine Wk.iconst o_L_law_602 (z := (0 : Int32)) (by decide) ?_
                    first | (rw [show ((if (XT.cmpL (f_L_dom ((v13 * v8).toInt64) ((v13 * v9).toInt64) ((v6).toInt64) ((v7).toInt64)) (f_L_dom ((v14 * v10).toInt64) ((v14 * v11).toInt64) ((v6).toInt64) ((v7).toInt64))) < 0 then (-1 : Int32) else (if 0 < (XT.cmpL (f_L_dom ((v13 * v8).toInt64) ((v13 * v9).toInt64) ((v6).toInt64) ((v7).toInt64)) (f_L_dom ((v14 * v10).toInt64) ((v14 * v11).toInt64) ((v6).toInt64) ((v7).toInt64))) then (1 : Int32) else (0 : Int32))) : Int32) = (0 : Int32) from Eq.trans (if_neg q17) <| if_neg q18] at J20; exact J20) | exact J20 | (simp only [if_neg q17, if_neg q18] at J20 ⊢; exact J20)
                  · refine Wk.iconst o_L_law_598 (z := (1 : Int32)) (by decide) ?_
                    refine Wk.goto o_L_law_599 ?_
                    first | (rw [show ((if (XT.cmpL (f_L_dom ((v13 * v8).toInt64) ((v13 * v9).toInt64) ((v6).toInt64) ((v7).toInt64)) (f_L_dom ((v14 * v10).toInt64) ((v14 * v11).toInt64) ((v6).toInt64) ((v7).toInt64))) < 0 then (-1 : Int32) else (if 0 < (XT.cmpL (f_L_dom ((v13 * v8).toInt64) ((v13 * v9).toInt64) ((v6).toInt64) ((v7).toInt64)) (f_L_dom ((v14 * v10).toInt64) ((v14 * v11).toInt64) ((v6).toInt64) ((v7).toInt64))) then (1 : Int32) else (0 : Int32))) : Int32) = (1 : Int32) from Eq.trans (if_neg q17) <| if_pos q18] at J20; exact J20) | exact J20 | (simp only [if_neg q17, if_pos q18] at J20 ⊢; exact J20)
                · refine Wk.iconst o_L_law_586 (z := (-1 : Int32)) (by decide) ?_
                  refine Wk.goto o_L_law_587 ?_
                  first | (rw [show ((if (XT.cmpL (f_L_dom ((v13 * v8).toInt64) ((v13 * v9).toInt64) ((v6).toInt64) ((v7).toInt64)) (f_L_dom ((v14 * v10).toInt64) ((v14 * v11).toInt64) ((v6).toInt64) ((v7).toInt64))) < 0 then (-1 : Int32) else (if 0 < (XT.cmpL (f_L_dom ((v13 * v8).toInt64) ((v13 * v9).toInt64) ((v6).toInt64) ((v7).toInt64)) (f_L_dom ((v14 * v10).toInt64) ((v14 * v11).toInt64) ((v6).toInt64) ((v7).toInt64))) then (1 : Int32) else (0 : Int32))) : Int32) = (-1 : Int32) from if_pos q17] at J20; exact J20) | exact J20 | (simp only [if_pos q17] at J20 ⊢; exact J20)
              · refine Wk.iconst o_L_law_530 (z := (0 : Int32)) (by decide) ?_
                exact Wk.zreturn mrL rfl o_L_law_531 rfl (by decide) (by decide) (y := (0 : Int32)) (by decide) (h25 q1 q3 q6 q8 q11 q13 q16)
          · refine Wk.iconst o_L_law_498 (z := (0 : Int32)) (by decide) ?_
            exact Wk.zreturn mrL rfl o_L_law_499 rfl (by decide) (by decide) (y := (0 : Int32)) (by decide) (h26 q1 q3 q6 q8 q11)
      · refine Wk.iconst o_L_law_466 (z := (0 : Int32)) (by decide) ?_
        exact Wk.zreturn mrL rfl o_L_law_467 rfl (by decide) (by decide) (y := (0 : Int32)) (by decide) (h27 q1 q3 q6)
  · refine Wk.iload o_L_law_190 rfl ?_
    refine Wk.iconst o_L_law_192 (z := (3 : Int32)) (by decide) ?_
    have J33 : Wk l Z (MoL Z cdC "DominantShareL3" false) md_L_law 221 [.unset, .unset, .unset, .unset, .unset, .unset, .val (.int v6), .val (.int v7), .val (.int v8), .val (.int v9), .val (.int v10), .val (.int v11), .val (.ref 1), .val (.int v13), .val (.int v14), .val (.int v15), .val (.int v16), .val (.int v17), .unset, .unset, .unset, .unset, .unset, .unset, .unset] [.int (if v13 < (3 : Int32) then (if (v6 - v15) < v8 then (0 : Int32) else (if (v7 - v16) < v9 then (0 : Int32) else (1 : Int32))) else (0 : Int32))] (sl, sv, [(15, F1, G1, A1, B1)]) 16 324 Q := by
      refine Wk.istore o_L_law_221 (Or.inl rfl) (L' := [.unset, .unset, .unset, .unset, .unset, .unset, .val (.int v6), .val (.int v7), .val (.int v8), .val (.int v9), .val (.int v10), .val (.int v11), .val (.ref 1), .val (.int v13), .val (.int v14), .val (.int v15), .val (.int v16), .val (.int v17), .val (.int (if v13 < (3 : Int32) then (if (v6 - v15) < v8 then (0 : Int32) else (if (v7 - v16) < v9 then (0 : Int32) else (1 : Int32))) else (0 : Int32))), .unset, .unset, .unset, .unset, .unset, .unset]) rfl ?_
      exact (h34 q1)
    refine Wk.icmp_ge o_L_law_193 (fun q28 => ?_) (fun q28 => ?_)
    · refine Wk.iconst o_L_law_220 (z := (0 : Int32)) (by decide) ?_
      first | (rw [show ((if v13 < (3 : Int32) then (if (v6 - v15) < v8 then (0 : Int32) else (if (v7 - v16) < v9 then (0 : Int32) else (1 : Int32))) else (0 : Int32)) : Int32) = (0 : Int32) from if_neg q28] at J33; exact J33) | exact J33 | (simp only [if_neg q28] at J33 ⊢; exact J33)
    · refine Wk.iload o_L_law_196 rfl ?_
      refine Wk.iload o_L_law_198 rfl ?_
      refine Wk.iload o_L_law_200 rfl ?_
      refine Wk.isub o_L_law_202 ?_
      refine Wk.icmp_gt o_L_law_203 (fun q29 => ?_) (fun q29 => ?_)
      · refine Wk.iconst o_L_law_220 (z := (0 : Int32)) (by decide) ?_
        first | (rw [show ((if v13 < (3 : Int32) then (if (v6 - v15) < v8 then (0 : Int32) else (if (v7 - v16) < v9 then (0 : Int32) else (1 : Int32))) else (0 : Int32)) : Int32) = (0 : Int32) from Eq.trans (if_pos q28) <| if_pos q29] at J33; exact J33) | exact J33 | (simp only [if_pos q28, if_pos q29] at J33 ⊢; exact J33)
      · refine Wk.iload o_L_law_206 rfl ?_
        refine Wk.iload o_L_law_208 rfl ?_
        refine Wk.iload o_L_law_210 rfl ?_
        refine Wk.isub o_L_law_212 ?_
        refine Wk.icmp_gt o_L_law_213 (fun q30 => ?_) (fun q30 => ?_)
        · refine Wk.iconst o_L_law_220 (z := (0 : Int32)) (by decide) ?_
          first | (rw [show ((if v13 < (3 : Int32) then (if (v6 - v15) < v8 then (0 : Int32) else (if (v7 - v16) < v9 then (0 : Int32) else (1 : Int32))) else (0 : Int32)) : Int32) = (0 : Int32) from Eq.trans (if_pos q28) <| Eq.trans (if_neg q29) <| if_pos q30] at J33; exact J33) | exact J33 | (simp only [if_pos q28, if_neg q29, if_pos q30] at J33 ⊢; exact J33)
        · refine Wk.iconst o_L_law_216 (z := (1 : Int32)) (by decide) ?_
          refine Wk.goto o_L_law_217 ?_
          first | (rw [show ((if v13 < (3 : Int32) then (if (v6 - v15) < v8 then (0 : Int32) else (if (v7 - v16) < v9 then (0 : Int32) else (1 : Int32))) else (0 : Int32)) : Int32) = (1 : Int32) from Eq.trans (if_pos q28) <| Eq.trans (if_neg q29) <| if_neg q30] at J33; exact J33) | exact J33 | (simp only [if_pos q28, if_neg q29, if_neg q30] at J33 ⊢; exact J33)

set_option maxRecDepth 65536 in
set_option maxHeartbeats 4000000 in
theorem wp_L_law_223 {l : Launch} {Z : State} {a0 : Array Value} (H : OK Z a0) (sl : Int32) (sv : Int32 → Int32) (F1 : Nat → Int32) (G1 : Nat → Int64) (A1 : Nat → Int32 → Int32) (B1 : Nat → Int32 → Int64) (v6 : Int32) (v7 : Int32) (v8 : Int32) (v9 : Int32) (v10 : Int32) (v11 : Int32) (v13 : Int32) (v14 : Int32) (v15 : Int32) (v16 : Int32) (v17 : Int32) (v18 : Int32) {Q : Option Value → WL → Prop} (h7 : Wk l Z (MoL Z cdC "DominantShareL3" false) md_L_law 256 [.unset, .unset, .unset, .unset, .unset, .unset, .val (.int v6), .val (.int v7), .val (.int v8), .val (.int v9), .val (.int v10), .val (.int v11), .val (.ref 1), .val (.int v13), .val (.int v14), .val (.int v15), .val (.int v16), .val (.int v17), .val (.int v18), .val (.int (if v14 < (3 : Int32) then (if (v6 - v15) < v10 then (0 : Int32) else (if (v7 - v16) < v11 then (0 : Int32) else (1 : Int32))) else (0 : Int32))), .unset, .unset, .unset, .unset, .unset] [] (sl, sv, [(15, F1, G1, A1, B1)]) 16 324 Q) :
    Wk l Z (MoL Z cdC "DominantShareL3" false) md_L_law 223 [.unset, .unset, .unset, .unset, .unset, .unset, .val (.int v6), .val (.int v7), .val (.int v8), .val (.int v9), .val (.int v10), .val (.int v11), .val (.ref 1), .val (.int v13), .val (.int v14), .val (.int v15), .val (.int v16), .val (.int v17), .val (.int v18), .unset, .unset, .unset, .unset, .unset, .unset] [] (sl, sv, [(15, F1, G1, A1, B1)]) 16 324 Q := by
  refine Wk.iload o_L_law_223 rfl ?_
  refine Wk.iconst o_L_law_225 (z := (3 : Int32)) (by decide) ?_
  have J6 : Wk l Z (MoL Z cdC "DominantShareL3" false) md_L_law 254 [.unset, .unset, .unset, .unset, .unset, .unset, .val (.int v6), .val (.int v7), .val (.int v8), .val (.int v9), .val (.int v10), .val (.int v11), .val (.ref 1), .val (.int v13), .val (.int v14), .val (.int v15), .val (.int v16), .val (.int v17), .val (.int v18), .unset, .unset, .unset, .unset, .unset, .unset] [.int (if v14 < (3 : Int32) then (if (v6 - v15) < v10 then (0 : Int32) else (if (v7 - v16) < v11 then (0 : Int32) else (1 : Int32))) else (0 : Int32))] (sl, sv, [(15, F1, G1, A1, B1)]) 16 324 Q := by
    refine Wk.istore o_L_law_254 (Or.inl rfl) (L' := [.unset, .unset, .unset, .unset, .unset, .unset, .val (.int v6), .val (.int v7), .val (.int v8), .val (.int v9), .val (.int v10), .val (.int v11), .val (.ref 1), .val (.int v13), .val (.int v14), .val (.int v15), .val (.int v16), .val (.int v17), .val (.int v18), .val (.int (if v14 < (3 : Int32) then (if (v6 - v15) < v10 then (0 : Int32) else (if (v7 - v16) < v11 then (0 : Int32) else (1 : Int32))) else (0 : Int32))), .unset, .unset, .unset, .unset, .unset]) rfl ?_
    exact h7
  refine Wk.icmp_ge o_L_law_226 (fun q1 => ?_) (fun q1 => ?_)
  · refine Wk.iconst o_L_law_253 (z := (0 : Int32)) (by decide) ?_
    first | (rw [show ((if v14 < (3 : Int32) then (if (v6 - v15) < v10 then (0 : Int32) else (if (v7 - v16) < v11 then (0 : Int32) else (1 : Int32))) else (0 : Int32)) : Int32) = (0 : Int32) from if_neg q1] at J6; exact J6) | exact J6 | (simp only [if_neg q1] at J6 ⊢; exact J6)
  · refine Wk.iload o_L_law_229 rfl ?_
    refine Wk.iload o_L_law_231 rfl ?_
    refine Wk.iload o_L_law_233 rfl ?_
    refine Wk.isub o_L_law_235 ?_
    refine Wk.icmp_gt o_L_law_236 (fun q2 => ?_) (fun q2 => ?_)
    · refine Wk.iconst o_L_law_253 (z := (0 : Int32)) (by decide) ?_
      first | (rw [show ((if v14 < (3 : Int32) then (if (v6 - v15) < v10 then (0 : Int32) else (if (v7 - v16) < v11 then (0 : Int32) else (1 : Int32))) else (0 : Int32)) : Int32) = (0 : Int32) from Eq.trans (if_pos q1) <| if_pos q2] at J6; exact J6) | exact J6 | (simp only [if_pos q1, if_pos q2] at J6 ⊢; exact J6)
    · refine Wk.iload o_L_law_239 rfl ?_
      refine Wk.iload o_L_law_241 rfl ?_
      refine Wk.iload o_L_law_243 rfl ?_
      refine Wk.isub o_L_law_245 ?_
      refine Wk.icmp_gt o_L_law_246 (fun q3 => ?_) (fun q3 => ?_)
      · refine Wk.iconst o_L_law_253 (z := (0 : Int32)) (by decide) ?_
        first | (rw [show ((if v14 < (3 : Int32) then (if (v6 - v15) < v10 then (0 : Int32) else (if (v7 - v16) < v11 then (0 : Int32) else (1 : Int32))) else (0 : Int32)) : Int32) = (0 : Int32) from Eq.trans (if_pos q1) <| Eq.trans (if_neg q2) <| if_pos q3] at J6; exact J6) | exact J6 | (simp only [if_pos q1, if_neg q2, if_pos q3] at J6 ⊢; exact J6)
      · refine Wk.iconst o_L_law_249 (z := (1 : Int32)) (by decide) ?_
        refine Wk.goto o_L_law_250 ?_
        first | (rw [show ((if v14 < (3 : Int32) then (if (v6 - v15) < v10 then (0 : Int32) else (if (v7 - v16) < v11 then (0 : Int32) else (1 : Int32))) else (0 : Int32)) : Int32) = (1 : Int32) from Eq.trans (if_pos q1) <| Eq.trans (if_neg q2) <| if_neg q3] at J6; exact J6) | exact J6 | (simp only [if_pos q1, if_neg q2, if_neg q3] at J6 ⊢; exact J6)

set_option maxRecDepth 65536 in
set_option maxHeartbeats 4000000 in
theorem wp_L_law_256 {l : Launch} {Z : State} {a0 : Array Value} (H : OK Z a0) (sl : Int32) (sv : Int32 → Int32) (F1 : Nat → Int32) (G1 : Nat → Int64) (A1 : Nat → Int32 → Int32) (B1 : Nat → Int32 → Int64) (v6 : Int32) (v7 : Int32) (v8 : Int32) (v9 : Int32) (v10 : Int32) (v11 : Int32) (v13 : Int32) (v14 : Int32) (v15 : Int32) (v16 : Int32) (v17 : Int32) (v18 : Int32) (v19 : Int32) {Q : Option Value → WL → Prop} (h4 : v18 = 0 → v18 = 0 → v19 = 0 → Wk l Z (MoL Z cdC "DominantShareL3" false) md_L_law 352 [.unset, .unset, .unset, .unset, .unset, .unset, .val (.int v6), .val (.int v7), .val (.int v8), .val (.int v9), .val (.int v10), .val (.int v11), .val (.ref 1), .val (.int v13), .val (.int v14), .val (.int v15), .val (.int v16), .val (.int v17), .unset, .unset, .val (.int (-1 : Int32)), .unset, .unset, .unset, .unset] [] (sl, sv, [(15, F1, G1, A1, B1)]) 16 324 Q) (h5 : v18 = 0 → v18 = 0 → ¬ v19 = 0 → Wk l Z (MoL Z cdC "DominantShareL3" false) md_L_law 352 [.unset, .unset, .unset, .unset, .unset, .unset, .val (.int v6), .val (.int v7), .val (.int v8), .val (.int v9), .val (.int v10), .val (.int v11), .val (.ref 1), .val (.int v13), .val (.int v14), .val (.int v15), .val (.int v16), .val (.int v17), .unset, .unset, .val (.int (1 : Int32)), .unset, .unset, .unset, .unset] [] (sl, sv, [(15, F1, G1, A1, B1)]) 16 324 Q) (h6 : v18 = 0 → ¬ v18 = 0 → Wk l Z (MoL Z cdC "DominantShareL3" false) md_L_law 352 [.unset, .unset, .unset, .unset, .unset, .unset, .val (.int v6), .val (.int v7), .val (.int v8), .val (.int v9), .val (.int v10), .val (.int v11), .val (.ref 1), .val (.int v13), .val (.int v14), .val (.int v15), .val (.int v16), .val (.int v17), .unset, .unset, .val (.int (0 : Int32)), .unset, .unset, .unset, .unset] [] (sl, sv, [(15, F1, G1, A1, B1)]) 16 324 Q) (h10 : ¬ v18 = 0 → v19 = 0 → v18 = 0 → v19 = 0 → Wk l Z (MoL Z cdC "DominantShareL3" false) md_L_law 352 [.unset, .unset, .unset, .unset, .unset, .unset, .val (.int v6), .val (.int v7), .val (.int v8), .val (.int v9), .val (.int v10), .val (.int v11), .val (.ref 1), .val (.int v13), .val (.int v14), .val (.int v15), .val (.int v16), .val (.int v17), .unset, .unset, .val (.int (-1 : Int32)), .unset, .unset, .unset, .unset] [] (sl, sv, [(15, F1, G1, A1, B1)]) 16 324 Q) (h11 : ¬ v18 = 0 → v19 = 0 → v18 = 0 → ¬ v19 = 0 → Wk l Z (MoL Z cdC "DominantShareL3" false) md_L_law 352 [.unset, .unset, .unset, .unset, .unset, .unset, .val (.int v6), .val (.int v7), .val (.int v8), .val (.int v9), .val (.int v10), .val (.int v11), .val (.ref 1), .val (.int v13), .val (.int v14), .val (.int v15), .val (.int v16), .val (.int v17), .unset, .unset, .val (.int (1 : Int32)), .unset, .unset, .unset, .unset] [] (sl, sv, [(15, F1, G1, A1, B1)]) 16 324 Q) (h12 : ¬ v18 = 0 → v19 = 0 → ¬ v18 = 0 → Wk l Z (MoL Z cdC "DominantShareL3" false) md_L_law 352 [.unset, .unset, .unset, .unset, .unset, .unset, .val (.int v6), .val (.int v7), .val (.int v8), .val (.int v9), .val (.int v10), .val (.int v11), .val (.ref 1), .val (.int v13), .val (.int v14), .val (.int v15), .val (.int v16), .val (.int v17), .unset, .unset, .val (.int (0 : Int32)), .unset, .unset, .unset, .unset] [] (sl, sv, [(15, F1, G1, A1, B1)]) 16 324 Q) (h15 : ¬ v18 = 0 → ¬ v19 = 0 → Wk l Z (MoL Z cdC "DominantShareL3" false) md_L_law 352 [.unset, .unset, .unset, .unset, .unset, .unset, .val (.int v6), .val (.int v7), .val (.int v8), .val (.int v9), .val (.int v10), .val (.int v11), .val (.ref 1), .val (.int v13), .val (.int v14), .val (.int v15), .val (.int v16), .val (.int v17), .unset, .unset, .val (.int (if 0 < (XT.cmpL (f_L_dom ((v13 * v8).toInt64) ((v13 * v9).toInt64) ((v6).toInt64) ((v7).toInt64)) (f_L_dom ((v14 * v10).toInt64) ((v14 * v11).toInt64) ((v6).toInt64) ((v7).toInt64))) then (1 : Int32) else (0 : Int32))), .unset, .unset, .unset, .unset] [] (sl, sv, [(15, F1, G1, A1, B1)]) 16 324 Q) :
    Wk l Z (MoL Z cdC "DominantShareL3" false) md_L_law 256 [.unset, .unset, .unset, .unset, .unset, .unset, .val (.int v6), .val (.int v7), .val (.int v8), .val (.int v9), .val (.int v10), .val (.int v11), .val (.ref 1), .val (.int v13), .val (.int v14), .val (.int v15), .val (.int v16), .val (.int v17), .val (.int v18), .val (.int v19), .unset, .unset, .unset, .unset, .unset] [] (sl, sv, [(15, F1, G1, A1, B1)]) 16 324 Q := by
  refine Wk.iconst o_L_law_256 (z := (-1 : Int32)) (by decide) ?_
  refine Wk.istore o_L_law_257 (Or.inl rfl) (L' := [.unset, .unset, .unset, .unset, .unset, .unset, .val (.int v6), .val (.int v7), .val (.int v8), .val (.int v9), .val (.int v10), .val (.int v11), .val (.ref 1), .val (.int v13), .val (.int v14), .val (.int v15), .val (.int v16), .val (.int v17), .val (.int v18), .val (.int v19), .val (.int (-1 : Int32)), .unset, .unset, .unset, .unset]) rfl ?_
  refine Wk.iload o_L_law_259 rfl ?_
  refine Wk.if_eq o_L_law_261 (fun q1 => ?_) (fun q1 => ?_)
  · refine Wk.iload o_L_law_333 rfl ?_
    refine Wk.if_eq o_L_law_335 (fun q2 => ?_) (fun q2 => ?_)
    · refine Wk.iload o_L_law_344 rfl ?_
      refine Wk.if_eq o_L_law_346 (fun q3 => ?_) (fun q3 => ?_)
      · refine Wk.forget [false, false, false, false, false, false, false, false, false, false, false, false, false, false, false, false, false, false, true, true, false, false, false, false, false] (L' := [.unset, .unset, .unset, .unset, .unset, .unset, .val (.int v6), .val (.int v7), .val (.int v8), .val (.int v9), .val (.int v10), .val (.int v11), .val (.ref 1), .val (.int v13), .val (.int v14), .val (.int v15), .val (.int v16), .val (.int v17), .unset, .unset, .val (.int (-1 : Int32)), .unset, .unset, .unset, .unset]) rfl rfl ?_
        exact (h4 q1 q2 q3)
      · refine Wk.iconst o_L_law_349 (z := (1 : Int32)) (by decide) ?_
        refine Wk.istore o_L_law_350 (Or.inr ⟨_, rfl, rfl⟩) (L' := [.unset, .unset, .unset, .unset, .unset, .unset, .val (.int v6), .val (.int v7), .val (.int v8), .val (.int v9), .val (.int v10), .val (.int v11), .val (.ref 1), .val (.int v13), .val (.int v14), .val (.int v15), .val (.int v16), .val (.int v17), .val (.int v18), .val (.int v19), .val (.int (1 : Int32)), .unset, .unset, .unset, .unset]) rfl ?_
        refine Wk.forget [false, false, false, false, false, false, false, false, false, false, false, false, false, false, false, false, false, false, true, true, false, false, false, false, false] (L' := [.unset, .unset, .unset, .unset, .unset, .unset, .val (.int v6), .val (.int v7), .val (.int v8), .val (.int v9), .val (.int v10), .val (.int v11), .val (.ref 1), .val (.int v13), .val (.int v14), .val (.int v15), .val (.int v16), .val (.int v17), .unset, .unset, .val (.int (1 : Int32)), .unset, .unset, .unset, .unset]) rfl rfl ?_
        exact (h5 q1 q2 q3)
    · refine Wk.iconst o_L_law_338 (z := (0 : Int32)) (by decide) ?_
      refine Wk.istore o_L_law_339 (Or.inr ⟨_, rfl, rfl⟩) (L' := [.unset, .unset, .unset, .unset, .unset, .unset, .val (.int v6), .val (.int v7), .val (.int v8), .val (.int v9), .val (.int v10), .val (.int v11), .val (.ref 1), .val (.int v13), .val (.int v14), .val (.int v15), .val (.int v16), .val (.int v17), .val (.int v18), .val (.int v19), .val (.int (0 : Int32)), .unset, .unset, .unset, .unset]) rfl ?_
      refine Wk.goto o_L_law_341 ?_
      refine Wk.forget [false, false, false, false, false, false, false, false, false, false, false, false, false, false, false, false, false, false, true, true, false, false, false, false, false] (L' := [.unset, .unset, .unset, .unset, .unset, .unset, .val (.int v6), .val (.int v7), .val (.int v8), .val (.int v9), .val (.int v10), .val (.int v11), .val (.ref 1), .val (.int v13), .val (.int v14), .val (.int v15), .val (.int v16), .val (.int v17), .unset, .unset, .val (.int (0 : Int32)), .unset, .unset, .unset, .unset]) rfl rfl ?_
      exact (h6 q1 q2)
  · refine Wk.iload o_L_law_264 rfl ?_
    refine Wk.if_eq o_L_law_266 (fun q7 => ?_) (fun q7 => ?_)
    · refine Wk.iload o_L_law_333 rfl ?_
      refine Wk.if_eq o_L_law_335 (fun q8 => ?_) (fun q8 => ?_)
      · refine Wk.iload o_L_law_344 rfl ?_
        refine Wk.if_eq o_L_law_346 (fun q9 => ?_) (fun q9 => ?_)
        · refine Wk.forget [false, false, false, false, false, false, false, false, false, false, false, false, false, false, false, false, false, false, true, true, false, false, false, false, false] (L' := [.unset, .unset, .unset, .unset, .unset, .unset, .val (.int v6), .val (.int v7), .val (.int v8), .val (.int v9), .val (.int v10), .val (.int v11), .val (.ref 1), .val (.int v13), .val (.int v14), .val (.int v15), .val (.int v16), .val (.int v17), .unset, .unset, .val (.int (-1 : Int32)), .unset, .unset, .unset, .unset]) rfl rfl ?_
          exact (h10 q1 q7 q8 q9)
        · refine Wk.iconst o_L_law_349 (z := (1 : Int32)) (by decide) ?_
          refine Wk.istore o_L_law_350 (Or.inr ⟨_, rfl, rfl⟩) (L' := [.unset, .unset, .unset, .unset, .unset, .unset, .val (.int v6), .val (.int v7), .val (.int v8), .val (.int v9), .val (.int v10), .val (.int v11), .val (.ref 1), .val (.int v13), .val (.int v14), .val (.int v15), .val (.int v16), .val (.int v17), .val (.int v18), .val (.int v19), .val (.int (1 : Int32)), .unset, .unset, .unset, .unset]) rfl ?_
          refine Wk.forget [false, false, false, false, false, false, false, false, false, false, false, false, false, false, false, false, false, false, true, true, false, false, false, false, false] (L' := [.unset, .unset, .unset, .unset, .unset, .unset, .val (.int v6), .val (.int v7), .val (.int v8), .val (.int v9), .val (.int v10), .val (.int v11), .val (.ref 1), .val (.int v13), .val (.int v14), .val (.int v15), .val (.int v16), .val (.int v17), .unset, .unset, .val (.int (1 : Int32)), .unset, .unset, .unset, .unset]) rfl rfl ?_
          exact (h11 q1 q7 q8 q9)
      · refine Wk.iconst o_L_law_338 (z := (0 : Int32)) (by decide) ?_
        refine Wk.istore o_L_law_339 (Or.inr ⟨_, rfl, rfl⟩) (L' := [.unset, .unset, .unset, .unset, .unset, .unset, .val (.int v6), .val (.int v7), .val (.int v8), .val (.int v9), .val (.int v10), .val (.int v11), .val (.ref 1), .val (.int v13), .val (.int v14), .val (.int v15), .val (.int v16), .val (.int v17), .val (.int v18), .val (.int v19), .val (.int (0 : Int32)), .unset, .unset, .unset, .unset]) rfl ?_
        refine Wk.goto o_L_law_341 ?_
        refine Wk.forget [false, false, false, false, false, false, false, false, false, false, false, false, false, false, false, false, false, false, true, true, false, false, false, false, false] (L' := [.unset, .unset, .unset, .unset, .unset, .unset, .val (.int v6), .val (.int v7), .val (.int v8), .val (.int v9), .val (.int v10), .val (.int v11), .val (.ref 1), .val (.int v13), .val (.int v14), .val (.int v15), .val (.int v16), .val (.int v17), .unset, .unset, .val (.int (0 : Int32)), .unset, .unset, .unset, .unset]) rfl rfl ?_
        exact (h12 q1 q7 q8)
    · refine Wk.iload o_L_law_269 rfl ?_
      refine Wk.iload o_L_law_271 rfl ?_
      refine Wk.imul o_L_law_273 ?_
      refine Wk.i2l o_L_law_274 ?_
      refine Wk.iload o_L_law_275 rfl ?_
      refine Wk.iload o_L_law_277 rfl ?_
      refine Wk.imul o_L_law_279 ?_
      refine Wk.i2l o_L_law_280 ?_
      refine Wk.iload o_L_law_281 rfl ?_
      refine Wk.i2l o_L_law_283 ?_
      refine Wk.iload o_L_law_284 rfl ?_
      refine Wk.i2l o_L_law_286 ?_
      refine Wk.callSF mtL [.long ((v13 * v8).toInt64), .long ((v13 * v9).toInt64), .long ((v6).toInt64), .long ((v7).toInt64)] [] (H.w 136 rfl) (cv_L_dom H) o_L_law_287 (run_L_dom H sl sv [(15, F1, G1, A1, B1)] ((v13 * v8).toInt64) ((v13 * v9).toInt64) ((v6).toInt64) ((v7).toInt64)) (wt := 0) (cu' := 16) (su' := 324) (by decide) rfl rfl (al_L_dom _ _ _ _) rfl rfl rfl ?_
      refine Wk.lstore o_L_law_290 (Or.inl rfl) (Or.inl rfl) (L' := [.unset, .unset, .unset, .unset, .unset, .unset, .val (.int v6), .val (.int v7), .val (.int v8), .val (.int v9), .val (.int v10), .val (.int v11), .val (.ref 1), .val (.int v13), .val (.int v14), .val (.int v15), .val (.int v16), .val (.int v17), .val (.int v18), .val (.int v19), .val (.int (-1 : Int32)), .val (.long (f_L_dom ((v13 * v8).toInt64) ((v13 * v9).toInt64) ((v6).toInt64) ((v7).toInt64))), .second, .unset, .unset]) rfl ?_
      refine Wk.iload o_L_law_292 rfl ?_
      refine Wk.iload o_L_law_294 rfl ?_
      refine Wk.imul o_L_law_296 ?_
      refine Wk.i2l o_L_law_297 ?_
      refine Wk.iload o_L_law_298 rfl ?_
      refine Wk.iload o_L_law_300 rfl ?_
      refine Wk.imul o_L_law_302 ?_
      refine Wk.i2l o_L_law_303 ?_
      refine Wk.iload o_L_law_304 rfl ?_
      refine Wk.i2l o_L_law_306 ?_
      refine Wk.iload o_L_law_307 rfl ?_
      refine Wk.i2l o_L_law_309 ?_
      refine Wk.callSF mtL [.long ((v14 * v10).toInt64), .long ((v14 * v11).toInt64), .long ((v6).toInt64), .long ((v7).toInt64)] [] (H.w 136 rfl) (cv_L_dom H) o_L_law_310 (run_L_dom H sl sv [(15, F1, G1, A1, B1)] ((v14 * v10).toInt64) ((v14 * v11).toInt64) ((v6).toInt64) ((v7).toInt64)) (wt := 0) (cu' := 16) (su' := 324) (by decide) rfl rfl (al_L_dom _ _ _ _) rfl rfl rfl ?_
      refine Wk.lstore o_L_law_313 (Or.inl rfl) (Or.inl rfl) (L' := [.unset, .unset, .unset, .unset, .unset, .unset, .val (.int v6), .val (.int v7), .val (.int v8), .val (.int v9), .val (.int v10), .val (.int v11), .val (.ref 1), .val (.int v13), .val (.int v14), .val (.int v15), .val (.int v16), .val (.int v17), .val (.int v18), .val (.int v19), .val (.int (-1 : Int32)), .val (.long (f_L_dom ((v13 * v8).toInt64) ((v13 * v9).toInt64) ((v6).toInt64) ((v7).toInt64))), .second, .val (.long (f_L_dom ((v14 * v10).toInt64) ((v14 * v11).toInt64) ((v6).toInt64) ((v7).toInt64))), .second]) rfl ?_
      refine Wk.lload o_L_law_315 rfl ?_
      refine Wk.lload o_L_law_317 rfl ?_
      refine Wk.lcmp o_L_law_319 ?_
      have J14 : Wk l Z (MoL Z cdC "DominantShareL3" false) md_L_law 328 [.unset, .unset, .unset, .unset, .unset, .unset, .val (.int v6), .val (.int v7), .val (.int v8), .val (.int v9), .val (.int v10), .val (.int v11), .val (.ref 1), .val (.int v13), .val (.int v14), .val (.int v15), .val (.int v16), .val (.int v17), .val (.int v18), .val (.int v19), .val (.int (-1 : Int32)), .val (.long (f_L_dom ((v13 * v8).toInt64) ((v13 * v9).toInt64) ((v6).toInt64) ((v7).toInt64))), .second, .val (.long (f_L_dom ((v14 * v10).toInt64) ((v14 * v11).toInt64) ((v6).toInt64) ((v7).toInt64))), .second] [.int (if 0 < (XT.cmpL (f_L_dom ((v13 * v8).toInt64) ((v13 * v9).toInt64) ((v6).toInt64) ((v7).toInt64)) (f_L_dom ((v14 * v10).toInt64) ((v14 * v11).toInt64) ((v6).toInt64) ((v7).toInt64))) then (1 : Int32) else (0 : Int32))] (sl, sv, [(15, F1, G1, A1, B1)]) 16 324 Q := by
        refine Wk.istore o_L_law_328 (Or.inr ⟨_, rfl, rfl⟩) (L' := [.unset, .unset, .unset, .unset, .unset, .unset, .val (.int v6), .val (.int v7), .val (.int v8), .val (.int v9), .val (.int v10), .val (.int v11), .val (.ref 1), .val (.int v13), .val (.int v14), .val (.int v15), .val (.int v16), .val (.int v17), .val (.int v18), .val (.int v19), .val (.int (if 0 < (XT.cmpL (f_L_dom ((v13 * v8).toInt64) ((v13 * v9).toInt64) ((v6).toInt64) ((v7).toInt64)) (f_L_dom ((v14 * v10).toInt64) ((v14 * v11).toInt64) ((v6).toInt64) ((v7).toInt64))) then (1 : Int32) else (0 : Int32))), .val (.long (f_L_dom ((v13 * v8).toInt64) ((v13 * v9).toInt64) ((v6).toInt64) ((v7).toInt64))), .second, .val (.long (f_L_dom ((v14 * v10).toInt64) ((v14 * v11).toInt64) ((v6).toInt64) ((v7).toInt64))), .second]) rfl ?_
        refine Wk.goto o_L_law_330 ?_
        refine Wk.forget [false, false, false, false, false, false, false, false, false, false, false, false, false, false, false, false, false, false, true, true, false, true, true, true, true] (L' := [.unset, .unset, .unset, .unset, .unset, .unset, .val (.int v6), .val (.int v7), .val (.int v8), .val (.int v9), .val (.int v10), .val (.int v11), .val (.ref 1), .val (.int v13), .val (.int v14), .val (.int v15), .val (.int v16), .val (.int v17), .unset, .unset, .val (.int (if 0 < (XT.cmpL (f_L_dom ((v13 * v8).toInt64) ((v13 * v9).toInt64) ((v6).toInt64) ((v7).toInt64)) (f_L_dom ((v14 * v10).toInt64) ((v14 * v11).toInt64) ((v6).toInt64) ((v7).toInt64))) then (1 : Int32) else (0 : Int32))), .unset, .unset, .unset, .unset]) rfl rfl ?_
        exact (h15 q1 q7)
      refine Wk.if_gt o_L_law_320 (fun q13 => ?_) (fun q13 => ?_)
      · refine Wk.iconst o_L_law_327 (z := (1 : Int32)) (by decide) ?_
        first | (rw [show ((if 0 < (XT.cmpL (f_L_dom ((v13 * v8).toInt64) ((v13 * v9).toInt64) ((v6).toInt64) ((v7).toInt64)) (f_L_dom ((v14 * v10).toInt64) ((v14 * v11).toInt64) ((v6).toInt64) ((v7).toInt64))) then (1 : Int32) else (0 : Int32)) : Int32) = (1 : Int32) from if_pos q13] at J14; exact J14) | exact J14 | (simp only [if_pos q13] at J14 ⊢; exact J14)
      · refine Wk.iconst o_L_law_323 (z := (0 : Int32)) (by decide) ?_
        refine Wk.goto o_L_law_324 ?_
        first | (rw [show ((if 0 < (XT.cmpL (f_L_dom ((v13 * v8).toInt64) ((v13 * v9).toInt64) ((v6).toInt64) ((v7).toInt64)) (f_L_dom ((v14 * v10).toInt64) ((v14 * v11).toInt64) ((v6).toInt64) ((v7).toInt64))) then (1 : Int32) else (0 : Int32)) : Int32) = (0 : Int32) from if_neg q13] at J14; exact J14) | exact J14 | (simp only [if_neg q13] at J14 ⊢; exact J14)

set_option maxRecDepth 65536 in
set_option maxHeartbeats 4000000 in
theorem wp_L_law_352 {l : Launch} {Z : State} {a0 : Array Value} (H : OK Z a0) (sl : Int32) (sv : Int32 → Int32) (F1 : Nat → Int32) (G1 : Nat → Int64) (A1 : Nat → Int32 → Int32) (B1 : Nat → Int32 → Int64) (v6 : Int32) (v7 : Int32) (v8 : Int32) (v9 : Int32) (v10 : Int32) (v11 : Int32) (v13 : Int32) (v14 : Int32) (v15 : Int32) (v16 : Int32) (v17 : Int32) (v20 : Int32) {Q : Option Value → WL → Prop} (s1 : (en_step F1 A1 B1 ).isSome = true) (h2 : Wk l Z (MoL Z cdC "DominantShareL3" false) md_L_law 359 [.unset, .unset, .unset, .unset, .unset, .unset, .val (.int v6), .val (.int v7), .val (.int v8), .val (.int v9), .val (.int v10), .val (.int v11), .val (.ref 1), .val (.int v13), .val (.int v14), .val (.int v15), .val (.int v16), .val (.int v17), .unset, .unset, .val (.int v20), .val (.int (R_step F1 A1 B1 ).1), .unset, .unset, .unset] [] (sl, sv, [(15, (R_step F1 A1 B1 ).2.1, G1, (R_step F1 A1 B1 ).2.2, B1)]) 16 324 Q) :
    Wk l Z (MoL Z cdC "DominantShareL3" false) md_L_law 352 [.unset, .unset, .unset, .unset, .unset, .unset, .val (.int v6), .val (.int v7), .val (.int v8), .val (.int v9), .val (.int v10), .val (.int v11), .val (.ref 1), .val (.int v13), .val (.int v14), .val (.int v15), .val (.int v16), .val (.int v17), .unset, .unset, .val (.int v20), .unset, .unset, .unset, .unset] [] (sl, sv, [(15, F1, G1, A1, B1)]) 16 324 Q := by
  refine Wk.aload o_L_law_352 rfl ?_
  refine Wk.callLF (coC H) [] 0 [] (i' := 1) (H.w 140 rfl) (cv_step H) o_L_law_354 (run_step H F1 G1 A1 B1 s1) (wt := 0) (cu' := 16) (su' := 324) (by decide) trivial rfl rfl rfl rfl rfl rfl rfl rfl rfl rfl (ws' := [(15, (R_step F1 A1 B1 ).2.1, G1, (R_step F1 A1 B1 ).2.2, B1)]) rfl ?_
  refine Wk.istore o_L_law_357 (Or.inl rfl) (L' := [.unset, .unset, .unset, .unset, .unset, .unset, .val (.int v6), .val (.int v7), .val (.int v8), .val (.int v9), .val (.int v10), .val (.int v11), .val (.ref 1), .val (.int v13), .val (.int v14), .val (.int v15), .val (.int v16), .val (.int v17), .unset, .unset, .val (.int v20), .val (.int (R_step F1 A1 B1 ).1), .unset, .unset, .unset]) rfl ?_
  exact h2

set_option maxRecDepth 65536 in
set_option maxHeartbeats 4000000 in
theorem wp_L_law_359 {l : Launch} {Z : State} {a0 : Array Value} (H : OK Z a0) (sl : Int32) (sv : Int32 → Int32) (F1 : Nat → Int32) (G1 : Nat → Int64) (A1 : Nat → Int32 → Int32) (B1 : Nat → Int32 → Int64) (v6 : Int32) (v7 : Int32) (v8 : Int32) (v9 : Int32) (v10 : Int32) (v11 : Int32) (v13 : Int32) (v14 : Int32) (v15 : Int32) (v16 : Int32) (v17 : Int32) (v20 : Int32) (v21 : Int32) {Q : Option Value → WL → Prop} (h4 : ¬ v20 = 0 → ¬ v20 = (1 : Int32) → v21 = (-1 : Int32) → Wk l Z (MoL Z cdC "DominantShareL3" false) md_L_law 183 [.unset, .unset, .unset, .unset, .unset, .unset, .val (.int v6), .val (.int v7), .val (.int v8), .val (.int v9), .val (.int v10), .val (.int v11), .val (.ref 1), .val (.int v13), .val (.int v14), .val (.int v15), .val (.int v16), .val (.int (v17 + (1 : Int32))), .unset, .unset, .unset, .unset, .unset, .unset, .unset] [] (sl, sv, [(15, F1, G1, A1, B1)]) 16 324 Q) (h5 : ¬ v20 = 0 → ¬ v20 = (1 : Int32) → ¬ v21 = (-1 : Int32) → Q (some (.int (0 : Int32))) (sl, sv, [(15, F1, G1, A1, B1)])) (h7 : ¬ v20 = 0 → v20 = (1 : Int32) → v21 = ((3 : Int32) + v14) → Wk l Z (MoL Z cdC "DominantShareL3" false) md_L_law 183 [.unset, .unset, .unset, .unset, .unset, .unset, .val (.int v6), .val (.int v7), .val (.int v8), .val (.int v9), .val (.int v10), .val (.int v11), .val (.ref 1), .val (.int v13), .val (.int (v14 + (1 : Int32))), .val (.int (v15 + v10)), .val (.int (v16 + v11)), .val (.int (v17 + (1 : Int32))), .unset, .unset, .unset, .unset, .unset, .unset, .unset] [] (sl, sv, [(15, F1, G1, A1, B1)]) 16 324 Q) (h8 : ¬ v20 = 0 → v20 = (1 : Int32) → ¬ v21 = ((3 : Int32) + v14) → Q (some (.int (0 : Int32))) (sl, sv, [(15, F1, G1, A1, B1)])) (h10 : v20 = 0 → v21 = v13 → Wk l Z (MoL Z cdC "DominantShareL3" false) md_L_law 183 [.unset, .unset, .unset, .unset, .unset, .unset, .val (.int v6), .val (.int v7), .val (.int v8), .val (.int v9), .val (.int v10), .val (.int v11), .val (.ref 1), .val (.int (v13 + (1 : Int32))), .val (.int v14), .val (.int (v15 + v8)), .val (.int (v16 + v9)), .val (.int (v17 + (1 : Int32))), .unset, .unset, .unset, .unset, .unset, .unset, .unset] [] (sl, sv, [(15, F1, G1, A1, B1)]) 16 324 Q) (h11 : v20 = 0 → ¬ v21 = v13 → Q (some (.int (0 : Int32))) (sl, sv, [(15, F1, G1, A1, B1)])) :
    Wk l Z (MoL Z cdC "DominantShareL3" false) md_L_law 359 [.unset, .unset, .unset, .unset, .unset, .unset, .val (.int v6), .val (.int v7), .val (.int v8), .val (.int v9), .val (.int v10), .val (.int v11), .val (.ref 1), .val (.int v13), .val (.int v14), .val (.int v15), .val (.int v16), .val (.int v17), .unset, .unset, .val (.int v20), .val (.int v21), .unset, .unset, .unset] [] (sl, sv, [(15, F1, G1, A1, B1)]) 16 324 Q := by
  refine Wk.iload o_L_law_359 rfl ?_
  refine Wk.if_ne o_L_law_361 (fun q1 => ?_) (fun q1 => ?_)
  · refine Wk.iload o_L_law_393 rfl ?_
    refine Wk.iconst o_L_law_395 (z := (1 : Int32)) (by decide) ?_
    refine Wk.icmp_ne o_L_law_396 (fun q2 => ?_) (fun q2 => ?_)
    · refine Wk.iload o_L_law_430 rfl ?_
      refine Wk.iconst o_L_law_432 (z := (-1 : Int32)) (by decide) ?_
      refine Wk.icmp_eq o_L_law_433 (fun q3 => ?_) (fun q3 => ?_)
      · refine Wk.iinc o_L_law_438 rfl (z := (v17 + (1 : Int32))) rfl (L' := [.unset, .unset, .unset, .unset, .unset, .unset, .val (.int v6), .val (.int v7), .val (.int v8), .val (.int v9), .val (.int v10), .val (.int v11), .val (.ref 1), .val (.int v13), .val (.int v14), .val (.int v15), .val (.int v16), .val (.int (v17 + (1 : Int32))), .unset, .unset, .val (.int v20), .val (.int v21), .unset, .unset, .unset]) rfl ?_
        refine Wk.goto o_L_law_441 ?_
        refine Wk.forget [false, false, false, false, false, false, false, false, false, false, false, false, false, false, false, false, false, false, false, false, true, true, false, false, false] (L' := [.unset, .unset, .unset, .unset, .unset, .unset, .val (.int v6), .val (.int v7), .val (.int v8), .val (.int v9), .val (.int v10), .val (.int v11), .val (.ref 1), .val (.int v13), .val (.int v14), .val (.int v15), .val (.int v16), .val (.int (v17 + (1 : Int32))), .unset, .unset, .unset, .unset, .unset, .unset, .unset]) rfl rfl ?_
        exact (h4 q1 q2 q3)
      · refine Wk.iconst o_L_law_436 (z := (0 : Int32)) (by decide) ?_
        exact Wk.zreturn mrL rfl o_L_law_437 rfl (by decide) (by decide) (y := (0 : Int32)) (by decide) (h5 q1 q2 q3)
    · refine Wk.iload o_L_law_399 rfl ?_
      refine Wk.iconst o_L_law_401 (z := (3 : Int32)) (by decide) ?_
      refine Wk.iload o_L_law_402 rfl ?_
      refine Wk.iadd o_L_law_404 ?_
      refine Wk.icmp_eq o_L_law_405 (fun q6 => ?_) (fun q6 => ?_)
      · refine Wk.iinc o_L_law_410 rfl (z := (v14 + (1 : Int32))) rfl (L' := [.unset, .unset, .unset, .unset, .unset, .unset, .val (.int v6), .val (.int v7), .val (.int v8), .val (.int v9), .val (.int v10), .val (.int v11), .val (.ref 1), .val (.int v13), .val (.int (v14 + (1 : Int32))), .val (.int v15), .val (.int v16), .val (.int v17), .unset, .unset, .val (.int v20), .val (.int v21), .unset, .unset, .unset]) rfl ?_
        refine Wk.iload o_L_law_413 rfl ?_
        refine Wk.iload o_L_law_415 rfl ?_
        refine Wk.iadd o_L_law_417 ?_
        refine Wk.istore o_L_law_418 (Or.inr ⟨_, rfl, rfl⟩) (L' := [.unset, .unset, .unset, .unset, .unset, .unset, .val (.int v6), .val (.int v7), .val (.int v8), .val (.int v9), .val (.int v10), .val (.int v11), .val (.ref 1), .val (.int v13), .val (.int (v14 + (1 : Int32))), .val (.int (v15 + v10)), .val (.int v16), .val (.int v17), .unset, .unset, .val (.int v20), .val (.int v21), .unset, .unset, .unset]) rfl ?_
        refine Wk.iload o_L_law_420 rfl ?_
        refine Wk.iload o_L_law_422 rfl ?_
        refine Wk.iadd o_L_law_424 ?_
        refine Wk.istore o_L_law_425 (Or.inr ⟨_, rfl, rfl⟩) (L' := [.unset, .unset, .unset, .unset, .unset, .unset, .val (.int v6), .val (.int v7), .val (.int v8), .val (.int v9), .val (.int v10), .val (.int v11), .val (.ref 1), .val (.int v13), .val (.int (v14 + (1 : Int32))), .val (.int (v15 + v10)), .val (.int (v16 + v11)), .val (.int v17), .unset, .unset, .val (.int v20), .val (.int v21), .unset, .unset, .unset]) rfl ?_
        refine Wk.goto o_L_law_427 ?_
        refine Wk.iinc o_L_law_438 rfl (z := (v17 + (1 : Int32))) rfl (L' := [.unset, .unset, .unset, .unset, .unset, .unset, .val (.int v6), .val (.int v7), .val (.int v8), .val (.int v9), .val (.int v10), .val (.int v11), .val (.ref 1), .val (.int v13), .val (.int (v14 + (1 : Int32))), .val (.int (v15 + v10)), .val (.int (v16 + v11)), .val (.int (v17 + (1 : Int32))), .unset, .unset, .val (.int v20), .val (.int v21), .unset, .unset, .unset]) rfl ?_
        refine Wk.goto o_L_law_441 ?_
        refine Wk.forget [false, false, false, false, false, false, false, false, false, false, false, false, false, false, false, false, false, false, false, false, true, true, false, false, false] (L' := [.unset, .unset, .unset, .unset, .unset, .unset, .val (.int v6), .val (.int v7), .val (.int v8), .val (.int v9), .val (.int v10), .val (.int v11), .val (.ref 1), .val (.int v13), .val (.int (v14 + (1 : Int32))), .val (.int (v15 + v10)), .val (.int (v16 + v11)), .val (.int (v17 + (1 : Int32))), .unset, .unset, .unset, .unset, .unset, .unset, .unset]) rfl rfl ?_
        exact (h7 q1 q2 q6)
      · refine Wk.iconst o_L_law_408 (z := (0 : Int32)) (by decide) ?_
        exact Wk.zreturn mrL rfl o_L_law_409 rfl (by decide) (by decide) (y := (0 : Int32)) (by decide) (h8 q1 q2 q6)
  · refine Wk.iload o_L_law_364 rfl ?_
    refine Wk.iload o_L_law_366 rfl ?_
    refine Wk.icmp_eq o_L_law_368 (fun q9 => ?_) (fun q9 => ?_)
    · refine Wk.iinc o_L_law_373 rfl (z := (v13 + (1 : Int32))) rfl (L' := [.unset, .unset, .unset, .unset, .unset, .unset, .val (.int v6), .val (.int v7), .val (.int v8), .val (.int v9), .val (.int v10), .val (.int v11), .val (.ref 1), .val (.int (v13 + (1 : Int32))), .val (.int v14), .val (.int v15), .val (.int v16), .val (.int v17), .unset, .unset, .val (.int v20), .val (.int v21), .unset, .unset, .unset]) rfl ?_
      refine Wk.iload o_L_law_376 rfl ?_
      refine Wk.iload o_L_law_378 rfl ?_
      refine Wk.iadd o_L_law_380 ?_
      refine Wk.istore o_L_law_381 (Or.inr ⟨_, rfl, rfl⟩) (L' := [.unset, .unset, .unset, .unset, .unset, .unset, .val (.int v6), .val (.int v7), .val (.int v8), .val (.int v9), .val (.int v10), .val (.int v11), .val (.ref 1), .val (.int (v13 + (1 : Int32))), .val (.int v14), .val (.int (v15 + v8)), .val (.int v16), .val (.int v17), .unset, .unset, .val (.int v20), .val (.int v21), .unset, .unset, .unset]) rfl ?_
      refine Wk.iload o_L_law_383 rfl ?_
      refine Wk.iload o_L_law_385 rfl ?_
      refine Wk.iadd o_L_law_387 ?_
      refine Wk.istore o_L_law_388 (Or.inr ⟨_, rfl, rfl⟩) (L' := [.unset, .unset, .unset, .unset, .unset, .unset, .val (.int v6), .val (.int v7), .val (.int v8), .val (.int v9), .val (.int v10), .val (.int v11), .val (.ref 1), .val (.int (v13 + (1 : Int32))), .val (.int v14), .val (.int (v15 + v8)), .val (.int (v16 + v9)), .val (.int v17), .unset, .unset, .val (.int v20), .val (.int v21), .unset, .unset, .unset]) rfl ?_
      refine Wk.goto o_L_law_390 ?_
      refine Wk.iinc o_L_law_438 rfl (z := (v17 + (1 : Int32))) rfl (L' := [.unset, .unset, .unset, .unset, .unset, .unset, .val (.int v6), .val (.int v7), .val (.int v8), .val (.int v9), .val (.int v10), .val (.int v11), .val (.ref 1), .val (.int (v13 + (1 : Int32))), .val (.int v14), .val (.int (v15 + v8)), .val (.int (v16 + v9)), .val (.int (v17 + (1 : Int32))), .unset, .unset, .val (.int v20), .val (.int v21), .unset, .unset, .unset]) rfl ?_
      refine Wk.goto o_L_law_441 ?_
      refine Wk.forget [false, false, false, false, false, false, false, false, false, false, false, false, false, false, false, false, false, false, false, false, true, true, false, false, false] (L' := [.unset, .unset, .unset, .unset, .unset, .unset, .val (.int v6), .val (.int v7), .val (.int v8), .val (.int v9), .val (.int v10), .val (.int v11), .val (.ref 1), .val (.int (v13 + (1 : Int32))), .val (.int v14), .val (.int (v15 + v8)), .val (.int (v16 + v9)), .val (.int (v17 + (1 : Int32))), .unset, .unset, .unset, .unset, .unset, .unset, .unset]) rfl rfl ?_
      exact (h10 q1 q9)
    · refine Wk.iconst o_L_law_371 (z := (0 : Int32)) (by decide) ?_
      exact Wk.zreturn mrL rfl o_L_law_372 rfl (by decide) (by decide) (y := (0 : Int32)) (by decide) (h11 q1 q9)

theorem rt_law {v r : Int32} (e : v = r) : some (Value.int v) = some (Value.int r) := by rw [e]
def lp_L_law : Nat → Nat → Int32 → Int32 → Int32 → Int32 → Int32 → Int32 → Int32 → Int32 → Int32 → Int32 → Int32 → Int32 → Int32 → Int32 → Int32 → (Nat → Int32) → (Nat → Int64) → (Nat → Int32 → Int32) → (Nat → Int32 → Int64) → Option (Int32)
  | 0, _, _, _, _, _, _, _, _, _, _, _, _, _, _, _, _, _, _, _, _ => none
  | n + 1, tag, v6, v7, v8, v9, v10, v11, v13, v14, v15, v16, v17, v18, v19, v20, v21, F1, G1, A1, B1 => if tag = 61 then (if (f_stage v8 v9 (0 : Int32)) = 0 then some ((0 : Int32)) else lp_L_law n 76 v6 v7 v8 v9 v10 v11 0 0 0 0 0 0 0 0 0 F1 G1 (A_stage A1 v8 v9 (0 : Int32)) B1) else if tag = 76 then (if ((en_submit F1 G1 A1 B1 (0 : Int32) (1 : Int32)).isSome = true) then (if (R_submit F1 G1 A1 B1 (0 : Int32) (1 : Int32)).1 = 0 then lp_L_law n 88 v6 v7 v8 v9 v10 v11 0 0 0 0 0 0 0 0 0 (R_submit F1 G1 A1 B1 (0 : Int32) (1 : Int32)).2.1 (R_submit F1 G1 A1 B1 (0 : Int32) (1 : Int32)).2.2.1 (R_submit F1 G1 A1 B1 (0 : Int32) (1 : Int32)).2.2.2.1 (R_submit F1 G1 A1 B1 (0 : Int32) (1 : Int32)).2.2.2.2 else some ((0 : Int32))) else none) else if tag = 88 then (if ((en_submit F1 G1 A1 B1 (0 : Int32) (1 : Int32)).isSome = true) then (if (R_submit F1 G1 A1 B1 (0 : Int32) (1 : Int32)).1 = (1 : Int32) then lp_L_law n 101 v6 v7 v8 v9 v10 v11 0 0 0 0 0 0 0 0 0 (R_submit F1 G1 A1 B1 (0 : Int32) (1 : Int32)).2.1 (R_submit F1 G1 A1 B1 (0 : Int32) (1 : Int32)).2.2.1 (R_submit F1 G1 A1 B1 (0 : Int32) (1 : Int32)).2.2.2.1 (R_submit F1 G1 A1 B1 (0 : Int32) (1 : Int32)).2.2.2.2 else some ((0 : Int32))) else none) else if tag = 101 then (if ((en_submit F1 G1 A1 B1 (0 : Int32) (1 : Int32)).isSome = true) then (if (R_submit F1 G1 A1 B1 (0 : Int32) (1 : Int32)).1 = (2 : Int32) then lp_L_law n 114 v6 v7 v8 v9 v10 v11 0 0 0 0 0 0 0 0 0 (R_submit F1 G1 A1 B1 (0 : Int32) (1 : Int32)).2.1 (R_submit F1 G1 A1 B1 (0 : Int32) (1 : Int32)).2.2.1 (R_submit F1 G1 A1 B1 (0 : Int32) (1 : Int32)).2.2.2.1 (R_submit F1 G1 A1 B1 (0 : Int32) (1 : Int32)).2.2.2.2 else some ((0 : Int32))) else none) else if tag = 114 then (if (f_stage v10 v11 (0 : Int32)) = 0 then some ((0 : Int32)) else lp_L_law n 129 v6 v7 v8 v9 v10 v11 0 0 0 0 0 0 0 0 0 F1 G1 (A_stage A1 v10 v11 (0 : Int32)) B1) else if tag = 129 then (if ((en_submit F1 G1 A1 B1 (1 : Int32) (1 : Int32)).isSome = true) then (if (R_submit F1 G1 A1 B1 (1 : Int32) (1 : Int32)).1 = (3 : Int32) then lp_L_law n 142 v6 v7 v8 v9 v10 v11 0 0 0 0 0 0 0 0 0 (R_submit F1 G1 A1 B1 (1 : Int32) (1 : Int32)).2.1 (R_submit F1 G1 A1 B1 (1 : Int32) (1 : Int32)).2.2.1 (R_submit F1 G1 A1 B1 (1 : Int32) (1 : Int32)).2.2.2.1 (R_submit F1 G1 A1 B1 (1 : Int32) (1 : Int32)).2.2.2.2 else some ((0 : Int32))) else none) else if tag = 142 then (if ((en_submit F1 G1 A1 B1 (1 : Int32) (1 : Int32)).isSome = true) then (if (R_submit F1 G1 A1 B1 (1 : Int32) (1 : Int32)).1 = (4 : Int32) then lp_L_law n 155 v6 v7 v8 v9 v10 v11 0 0 0 0 0 0 0 0 0 (R_submit F1 G1 A1 B1 (1 : Int32) (1 : Int32)).2.1 (R_submit F1 G1 A1 B1 (1 : Int32) (1 : Int32)).2.2.1 (R_submit F1 G1 A1 B1 (1 : Int32) (1 : Int32)).2.2.2.1 (R_submit F1 G1 A1 B1 (1 : Int32) (1 : Int32)).2.2.2.2 else some ((0 : Int32))) else none) else if tag = 155 then (if ((en_submit F1 G1 A1 B1 (1 : Int32) (1 : Int32)).isSome = true) then (if (R_submit F1 G1 A1 B1 (1 : Int32) (1 : Int32)).1 = (5 : Int32) then lp_L_law n 168 v6 v7 v8 v9 v10 v11 0 0 0 0 0 0 0 0 0 (R_submit F1 G1 A1 B1 (1 : Int32) (1 : Int32)).2.1 (R_submit F1 G1 A1 B1 (1 : Int32) (1 : Int32)).2.2.1 (R_submit F1 G1 A1 B1 (1 : Int32) (1 : Int32)).2.2.2.1 (R_submit F1 G1 A1 B1 (1 : Int32) (1 : Int32)).2.2.2.2 else some ((0 : Int32))) else none) else if tag = 168 then lp_L_law n 183 v6 v7 v8 v9 v10 v11 (0 : Int32) (0 : Int32) (0 : Int32) (0 : Int32) (0 : Int32) 0 0 0 0 F1 G1 A1 B1 else if tag = 183 then (if v17 < (8 : Int32) then lp_L_law n 223 v6 v7 v8 v9 v10 v11 v13 v14 v15 v16 v17 (if v13 < (3 : Int32) then (if (v6 - v15) < v8 then (0 : Int32) else (if (v7 - v16) < v9 then (0 : Int32) else (1 : Int32))) else (0 : Int32)) 0 0 0 F1 G1 A1 B1 else (if ((en_used A1 (0 : Int32)).isSome = true) then (if (R_used A1 (0 : Int32)) = v15 then (if ((en_used A1 (1 : Int32)).isSome = true) then (if (R_used A1 (1 : Int32)) = v16 then (if ((en_userAlloc F1 A1 (0 : Int32) (0 : Int32)).isSome = true) then (if (R_userAlloc F1 A1 (0 : Int32) (0 : Int32)) = (v13 * v8) then (if ((en_userAlloc F1 A1 (0 : Int32) (1 : Int32)).isSome = true) then (if (R_userAlloc F1 A1 (0 : Int32) (1 : Int32)) = (v13 * v9) then (if ((en_userAlloc F1 A1 (1 : Int32) (0 : Int32)).isSome = true) then (if (R_userAlloc F1 A1 (1 : Int32) (0 : Int32)) = (v14 * v10) then (if ((en_userAlloc F1 A1 (1 : Int32) (1 : Int32)).isSome = true) then (if (R_userAlloc F1 A1 (1 : Int32) (1 : Int32)) = (v14 * v11) then (if ((en_compareShares F1 A1 (0 : Int32) (1 : Int32)).isSome = true) then some ((nar .boolean (if (R_compareShares F1 A1 (0 : Int32) (1 : Int32)) = (if (XT.cmpL (f_L_dom ((v13 * v8).toInt64) ((v13 * v9).toInt64) ((v6).toInt64) ((v7).toInt64)) (f_L_dom ((v14 * v10).toInt64) ((v14 * v11).toInt64) ((v6).toInt64) ((v7).toInt64))) < 0 then (-1 : Int32) else (if 0 < (XT.cmpL (f_L_dom ((v13 * v8).toInt64) ((v13 * v9).toInt64) ((v6).toInt64) ((v7).toInt64)) (f_L_dom ((v14 * v10).toInt64) ((v14 * v11).toInt64) ((v6).toInt64) ((v7).toInt64))) then (1 : Int32) else (0 : Int32))) then (1 : Int32) else (0 : Int32)))) else none) else some ((0 : Int32))) else none) else some ((0 : Int32))) else none) else some ((0 : Int32))) else none) else some ((0 : Int32))) else none) else some ((0 : Int32))) else none) else some ((0 : Int32))) else none)) else if tag = 223 then lp_L_law n 256 v6 v7 v8 v9 v10 v11 v13 v14 v15 v16 v17 v18 (if v14 < (3 : Int32) then (if (v6 - v15) < v10 then (0 : Int32) else (if (v7 - v16) < v11 then (0 : Int32) else (1 : Int32))) else (0 : Int32)) 0 0 F1 G1 A1 B1 else if tag = 256 then (if v18 = 0 then (if v18 = 0 then (if v19 = 0 then lp_L_law n 352 v6 v7 v8 v9 v10 v11 v13 v14 v15 v16 v17 0 0 (-1 : Int32) 0 F1 G1 A1 B1 else lp_L_law n 352 v6 v7 v8 v9 v10 v11 v13 v14 v15 v16 v17 0 0 (1 : Int32) 0 F1 G1 A1 B1) else lp_L_law n 352 v6 v7 v8 v9 v10 v11 v13 v14 v15 v16 v17 0 0 (0 : Int32) 0 F1 G1 A1 B1) else (if v19 = 0 then (if v18 = 0 then (if v19 = 0 then lp_L_law n 352 v6 v7 v8 v9 v10 v11 v13 v14 v15 v16 v17 0 0 (-1 : Int32) 0 F1 G1 A1 B1 else lp_L_law n 352 v6 v7 v8 v9 v10 v11 v13 v14 v15 v16 v17 0 0 (1 : Int32) 0 F1 G1 A1 B1) else lp_L_law n 352 v6 v7 v8 v9 v10 v11 v13 v14 v15 v16 v17 0 0 (0 : Int32) 0 F1 G1 A1 B1) else lp_L_law n 352 v6 v7 v8 v9 v10 v11 v13 v14 v15 v16 v17 0 0 (if 0 < (XT.cmpL (f_L_dom ((v13 * v8).toInt64) ((v13 * v9).toInt64) ((v6).toInt64) ((v7).toInt64)) (f_L_dom ((v14 * v10).toInt64) ((v14 * v11).toInt64) ((v6).toInt64) ((v7).toInt64))) then (1 : Int32) else (0 : Int32)) 0 F1 G1 A1 B1)) else if tag = 352 then (if ((en_step F1 A1 B1 ).isSome = true) then lp_L_law n 359 v6 v7 v8 v9 v10 v11 v13 v14 v15 v16 v17 0 0 v20 (R_step F1 A1 B1 ).1 (R_step F1 A1 B1 ).2.1 G1 (R_step F1 A1 B1 ).2.2 B1 else none) else if tag = 359 then (if v20 = 0 then (if v21 = v13 then lp_L_law n 183 v6 v7 v8 v9 v10 v11 (v13 + (1 : Int32)) v14 (v15 + v8) (v16 + v9) (v17 + (1 : Int32)) 0 0 0 0 F1 G1 A1 B1 else some ((0 : Int32))) else (if v20 = (1 : Int32) then (if v21 = ((3 : Int32) + v14) then lp_L_law n 183 v6 v7 v8 v9 v10 v11 v13 (v14 + (1 : Int32)) (v15 + v10) (v16 + v11) (v17 + (1 : Int32)) 0 0 0 0 F1 G1 A1 B1 else some ((0 : Int32))) else (if v21 = (-1 : Int32) then lp_L_law n 183 v6 v7 v8 v9 v10 v11 v13 v14 v15 v16 (v17 + (1 : Int32)) 0 0 0 0 F1 G1 A1 B1 else some ((0 : Int32))))) else none
theorem lp_L_law_z (tag : Nat) (v6 : Int32) (v7 : Int32) (v8 : Int32) (v9 : Int32) (v10 : Int32) (v11 : Int32) (v13 : Int32) (v14 : Int32) (v15 : Int32) (v16 : Int32) (v17 : Int32) (v18 : Int32) (v19 : Int32) (v20 : Int32) (v21 : Int32) (F1 : Nat → Int32) (G1 : Nat → Int64) (A1 : Nat → Int32 → Int32) (B1 : Nat → Int32 → Int64) : lp_L_law 0 tag  v6 v7 v8 v9 v10 v11 v13 v14 v15 v16 v17 v18 v19 v20 v21 F1 G1 A1 B1 = none := Eq.trans rfl rfl
theorem lp_L_law_61 (n : Nat) (v6 : Int32) (v7 : Int32) (v8 : Int32) (v9 : Int32) (v10 : Int32) (v11 : Int32) (v13 : Int32) (v14 : Int32) (v15 : Int32) (v16 : Int32) (v17 : Int32) (v18 : Int32) (v19 : Int32) (v20 : Int32) (v21 : Int32) (F1 : Nat → Int32) (G1 : Nat → Int64) (A1 : Nat → Int32 → Int32) (B1 : Nat → Int32 → Int64) : lp_L_law (n + 1) 61  v6 v7 v8 v9 v10 v11 v13 v14 v15 v16 v17 v18 v19 v20 v21 F1 G1 A1 B1 = (if (f_stage v8 v9 (0 : Int32)) = 0 then some ((0 : Int32)) else lp_L_law n 76 v6 v7 v8 v9 v10 v11 0 0 0 0 0 0 0 0 0 F1 G1 (A_stage A1 v8 v9 (0 : Int32)) B1) := by
  rw [lp_L_law, if_pos rfl]
theorem lp_L_law_76 (n : Nat) (v6 : Int32) (v7 : Int32) (v8 : Int32) (v9 : Int32) (v10 : Int32) (v11 : Int32) (v13 : Int32) (v14 : Int32) (v15 : Int32) (v16 : Int32) (v17 : Int32) (v18 : Int32) (v19 : Int32) (v20 : Int32) (v21 : Int32) (F1 : Nat → Int32) (G1 : Nat → Int64) (A1 : Nat → Int32 → Int32) (B1 : Nat → Int32 → Int64) : lp_L_law (n + 1) 76  v6 v7 v8 v9 v10 v11 v13 v14 v15 v16 v17 v18 v19 v20 v21 F1 G1 A1 B1 = (if ((en_submit F1 G1 A1 B1 (0 : Int32) (1 : Int32)).isSome = true) then (if (R_submit F1 G1 A1 B1 (0 : Int32) (1 : Int32)).1 = 0 then lp_L_law n 88 v6 v7 v8 v9 v10 v11 0 0 0 0 0 0 0 0 0 (R_submit F1 G1 A1 B1 (0 : Int32) (1 : Int32)).2.1 (R_submit F1 G1 A1 B1 (0 : Int32) (1 : Int32)).2.2.1 (R_submit F1 G1 A1 B1 (0 : Int32) (1 : Int32)).2.2.2.1 (R_submit F1 G1 A1 B1 (0 : Int32) (1 : Int32)).2.2.2.2 else some ((0 : Int32))) else none) := by
  rw [lp_L_law, if_neg (by decide), if_pos rfl]
theorem lp_L_law_88 (n : Nat) (v6 : Int32) (v7 : Int32) (v8 : Int32) (v9 : Int32) (v10 : Int32) (v11 : Int32) (v13 : Int32) (v14 : Int32) (v15 : Int32) (v16 : Int32) (v17 : Int32) (v18 : Int32) (v19 : Int32) (v20 : Int32) (v21 : Int32) (F1 : Nat → Int32) (G1 : Nat → Int64) (A1 : Nat → Int32 → Int32) (B1 : Nat → Int32 → Int64) : lp_L_law (n + 1) 88  v6 v7 v8 v9 v10 v11 v13 v14 v15 v16 v17 v18 v19 v20 v21 F1 G1 A1 B1 = (if ((en_submit F1 G1 A1 B1 (0 : Int32) (1 : Int32)).isSome = true) then (if (R_submit F1 G1 A1 B1 (0 : Int32) (1 : Int32)).1 = (1 : Int32) then lp_L_law n 101 v6 v7 v8 v9 v10 v11 0 0 0 0 0 0 0 0 0 (R_submit F1 G1 A1 B1 (0 : Int32) (1 : Int32)).2.1 (R_submit F1 G1 A1 B1 (0 : Int32) (1 : Int32)).2.2.1 (R_submit F1 G1 A1 B1 (0 : Int32) (1 : Int32)).2.2.2.1 (R_submit F1 G1 A1 B1 (0 : Int32) (1 : Int32)).2.2.2.2 else some ((0 : Int32))) else none) := by
  rw [lp_L_law, if_neg (by decide), if_neg (by decide), if_pos rfl]
theorem lp_L_law_101 (n : Nat) (v6 : Int32) (v7 : Int32) (v8 : Int32) (v9 : Int32) (v10 : Int32) (v11 : Int32) (v13 : Int32) (v14 : Int32) (v15 : Int32) (v16 : Int32) (v17 : Int32) (v18 : Int32) (v19 : Int32) (v20 : Int32) (v21 : Int32) (F1 : Nat → Int32) (G1 : Nat → Int64) (A1 : Nat → Int32 → Int32) (B1 : Nat → Int32 → Int64) : lp_L_law (n + 1) 101  v6 v7 v8 v9 v10 v11 v13 v14 v15 v16 v17 v18 v19 v20 v21 F1 G1 A1 B1 = (if ((en_submit F1 G1 A1 B1 (0 : Int32) (1 : Int32)).isSome = true) then (if (R_submit F1 G1 A1 B1 (0 : Int32) (1 : Int32)).1 = (2 : Int32) then lp_L_law n 114 v6 v7 v8 v9 v10 v11 0 0 0 0 0 0 0 0 0 (R_submit F1 G1 A1 B1 (0 : Int32) (1 : Int32)).2.1 (R_submit F1 G1 A1 B1 (0 : Int32) (1 : Int32)).2.2.1 (R_submit F1 G1 A1 B1 (0 : Int32) (1 : Int32)).2.2.2.1 (R_submit F1 G1 A1 B1 (0 : Int32) (1 : Int32)).2.2.2.2 else some ((0 : Int32))) else none) := by
  rw [lp_L_law, if_neg (by decide), if_neg (by decide), if_neg (by decide), if_pos rfl]
theorem lp_L_law_114 (n : Nat) (v6 : Int32) (v7 : Int32) (v8 : Int32) (v9 : Int32) (v10 : Int32) (v11 : Int32) (v13 : Int32) (v14 : Int32) (v15 : Int32) (v16 : Int32) (v17 : Int32) (v18 : Int32) (v19 : Int32) (v20 : Int32) (v21 : Int32) (F1 : Nat → Int32) (G1 : Nat → Int64) (A1 : Nat → Int32 → Int32) (B1 : Nat → Int32 → Int64) : lp_L_law (n + 1) 114  v6 v7 v8 v9 v10 v11 v13 v14 v15 v16 v17 v18 v19 v20 v21 F1 G1 A1 B1 = (if (f_stage v10 v11 (0 : Int32)) = 0 then some ((0 : Int32)) else lp_L_law n 129 v6 v7 v8 v9 v10 v11 0 0 0 0 0 0 0 0 0 F1 G1 (A_stage A1 v10 v11 (0 : Int32)) B1) := by
  rw [lp_L_law, if_neg (by decide), if_neg (by decide), if_neg (by decide), if_neg (by decide), if_pos rfl]
theorem lp_L_law_129 (n : Nat) (v6 : Int32) (v7 : Int32) (v8 : Int32) (v9 : Int32) (v10 : Int32) (v11 : Int32) (v13 : Int32) (v14 : Int32) (v15 : Int32) (v16 : Int32) (v17 : Int32) (v18 : Int32) (v19 : Int32) (v20 : Int32) (v21 : Int32) (F1 : Nat → Int32) (G1 : Nat → Int64) (A1 : Nat → Int32 → Int32) (B1 : Nat → Int32 → Int64) : lp_L_law (n + 1) 129  v6 v7 v8 v9 v10 v11 v13 v14 v15 v16 v17 v18 v19 v20 v21 F1 G1 A1 B1 = (if ((en_submit F1 G1 A1 B1 (1 : Int32) (1 : Int32)).isSome = true) then (if (R_submit F1 G1 A1 B1 (1 : Int32) (1 : Int32)).1 = (3 : Int32) then lp_L_law n 142 v6 v7 v8 v9 v10 v11 0 0 0 0 0 0 0 0 0 (R_submit F1 G1 A1 B1 (1 : Int32) (1 : Int32)).2.1 (R_submit F1 G1 A1 B1 (1 : Int32) (1 : Int32)).2.2.1 (R_submit F1 G1 A1 B1 (1 : Int32) (1 : Int32)).2.2.2.1 (R_submit F1 G1 A1 B1 (1 : Int32) (1 : Int32)).2.2.2.2 else some ((0 : Int32))) else none) := by
  rw [lp_L_law, if_neg (by decide), if_neg (by decide), if_neg (by decide), if_neg (by decide), if_neg (by decide), if_pos rfl]
theorem lp_L_law_142 (n : Nat) (v6 : Int32) (v7 : Int32) (v8 : Int32) (v9 : Int32) (v10 : Int32) (v11 : Int32) (v13 : Int32) (v14 : Int32) (v15 : Int32) (v16 : Int32) (v17 : Int32) (v18 : Int32) (v19 : Int32) (v20 : Int32) (v21 : Int32) (F1 : Nat → Int32) (G1 : Nat → Int64) (A1 : Nat → Int32 → Int32) (B1 : Nat → Int32 → Int64) : lp_L_law (n + 1) 142  v6 v7 v8 v9 v10 v11 v13 v14 v15 v16 v17 v18 v19 v20 v21 F1 G1 A1 B1 = (if ((en_submit F1 G1 A1 B1 (1 : Int32) (1 : Int32)).isSome = true) then (if (R_submit F1 G1 A1 B1 (1 : Int32) (1 : Int32)).1 = (4 : Int32) then lp_L_law n 155 v6 v7 v8 v9 v10 v11 0 0 0 0 0 0 0 0 0 (R_submit F1 G1 A1 B1 (1 : Int32) (1 : Int32)).2.1 (R_submit F1 G1 A1 B1 (1 : Int32) (1 : Int32)).2.2.1 (R_submit F1 G1 A1 B1 (1 : Int32) (1 : Int32)).2.2.2.1 (R_submit F1 G1 A1 B1 (1 : Int32) (1 : Int32)).2.2.2.2 else some ((0 : Int32))) else none) := by
  rw [lp_L_law, if_neg (by decide), if_neg (by decide), if_neg (by decide), if_neg (by decide), if_neg (by decide), if_neg (by decide), if_pos rfl]
theorem lp_L_law_155 (n : Nat) (v6 : Int32) (v7 : Int32) (v8 : Int32) (v9 : Int32) (v10 : Int32) (v11 : Int32) (v13 : Int32) (v14 : Int32) (v15 : Int32) (v16 : Int32) (v17 : Int32) (v18 : Int32) (v19 : Int32) (v20 : Int32) (v21 : Int32) (F1 : Nat → Int32) (G1 : Nat → Int64) (A1 : Nat → Int32 → Int32) (B1 : Nat → Int32 → Int64) : lp_L_law (n + 1) 155  v6 v7 v8 v9 v10 v11 v13 v14 v15 v16 v17 v18 v19 v20 v21 F1 G1 A1 B1 = (if ((en_submit F1 G1 A1 B1 (1 : Int32) (1 : Int32)).isSome = true) then (if (R_submit F1 G1 A1 B1 (1 : Int32) (1 : Int32)).1 = (5 : Int32) then lp_L_law n 168 v6 v7 v8 v9 v10 v11 0 0 0 0 0 0 0 0 0 (R_submit F1 G1 A1 B1 (1 : Int32) (1 : Int32)).2.1 (R_submit F1 G1 A1 B1 (1 : Int32) (1 : Int32)).2.2.1 (R_submit F1 G1 A1 B1 (1 : Int32) (1 : Int32)).2.2.2.1 (R_submit F1 G1 A1 B1 (1 : Int32) (1 : Int32)).2.2.2.2 else some ((0 : Int32))) else none) := by
  rw [lp_L_law, if_neg (by decide), if_neg (by decide), if_neg (by decide), if_neg (by decide), if_neg (by decide), if_neg (by decide), if_neg (by decide), if_pos rfl]
theorem lp_L_law_168 (n : Nat) (v6 : Int32) (v7 : Int32) (v8 : Int32) (v9 : Int32) (v10 : Int32) (v11 : Int32) (v13 : Int32) (v14 : Int32) (v15 : Int32) (v16 : Int32) (v17 : Int32) (v18 : Int32) (v19 : Int32) (v20 : Int32) (v21 : Int32) (F1 : Nat → Int32) (G1 : Nat → Int64) (A1 : Nat → Int32 → Int32) (B1 : Nat → Int32 → Int64) : lp_L_law (n + 1) 168  v6 v7 v8 v9 v10 v11 v13 v14 v15 v16 v17 v18 v19 v20 v21 F1 G1 A1 B1 = lp_L_law n 183 v6 v7 v8 v9 v10 v11 (0 : Int32) (0 : Int32) (0 : Int32) (0 : Int32) (0 : Int32) 0 0 0 0 F1 G1 A1 B1 := by
  rw [lp_L_law, if_neg (by decide), if_neg (by decide), if_neg (by decide), if_neg (by decide), if_neg (by decide), if_neg (by decide), if_neg (by decide), if_neg (by decide), if_pos rfl]
theorem lp_L_law_183 (n : Nat) (v6 : Int32) (v7 : Int32) (v8 : Int32) (v9 : Int32) (v10 : Int32) (v11 : Int32) (v13 : Int32) (v14 : Int32) (v15 : Int32) (v16 : Int32) (v17 : Int32) (v18 : Int32) (v19 : Int32) (v20 : Int32) (v21 : Int32) (F1 : Nat → Int32) (G1 : Nat → Int64) (A1 : Nat → Int32 → Int32) (B1 : Nat → Int32 → Int64) : lp_L_law (n + 1) 183  v6 v7 v8 v9 v10 v11 v13 v14 v15 v16 v17 v18 v19 v20 v21 F1 G1 A1 B1 = (if v17 < (8 : Int32) then lp_L_law n 223 v6 v7 v8 v9 v10 v11 v13 v14 v15 v16 v17 (if v13 < (3 : Int32) then (if (v6 - v15) < v8 then (0 : Int32) else (if (v7 - v16) < v9 then (0 : Int32) else (1 : Int32))) else (0 : Int32)) 0 0 0 F1 G1 A1 B1 else (if ((en_used A1 (0 : Int32)).isSome = true) then (if (R_used A1 (0 : Int32)) = v15 then (if ((en_used A1 (1 : Int32)).isSome = true) then (if (R_used A1 (1 : Int32)) = v16 then (if ((en_userAlloc F1 A1 (0 : Int32) (0 : Int32)).isSome = true) then (if (R_userAlloc F1 A1 (0 : Int32) (0 : Int32)) = (v13 * v8) then (if ((en_userAlloc F1 A1 (0 : Int32) (1 : Int32)).isSome = true) then (if (R_userAlloc F1 A1 (0 : Int32) (1 : Int32)) = (v13 * v9) then (if ((en_userAlloc F1 A1 (1 : Int32) (0 : Int32)).isSome = true) then (if (R_userAlloc F1 A1 (1 : Int32) (0 : Int32)) = (v14 * v10) then (if ((en_userAlloc F1 A1 (1 : Int32) (1 : Int32)).isSome = true) then (if (R_userAlloc F1 A1 (1 : Int32) (1 : Int32)) = (v14 * v11) then (if ((en_compareShares F1 A1 (0 : Int32) (1 : Int32)).isSome = true) then some ((nar .boolean (if (R_compareShares F1 A1 (0 : Int32) (1 : Int32)) = (if (XT.cmpL (f_L_dom ((v13 * v8).toInt64) ((v13 * v9).toInt64) ((v6).toInt64) ((v7).toInt64)) (f_L_dom ((v14 * v10).toInt64) ((v14 * v11).toInt64) ((v6).toInt64) ((v7).toInt64))) < 0 then (-1 : Int32) else (if 0 < (XT.cmpL (f_L_dom ((v13 * v8).toInt64) ((v13 * v9).toInt64) ((v6).toInt64) ((v7).toInt64)) (f_L_dom ((v14 * v10).toInt64) ((v14 * v11).toInt64) ((v6).toInt64) ((v7).toInt64))) then (1 : Int32) else (0 : Int32))) then (1 : Int32) else (0 : Int32)))) else none) else some ((0 : Int32))) else none) else some ((0 : Int32))) else none) else some ((0 : Int32))) else none) else some ((0 : Int32))) else none) else some ((0 : Int32))) else none) else some ((0 : Int32))) else none)) := by
  rw [lp_L_law, if_neg (by decide), if_neg (by decide), if_neg (by decide), if_neg (by decide), if_neg (by decide), if_neg (by decide), if_neg (by decide), if_neg (by decide), if_neg (by decide), if_pos rfl]
theorem lp_L_law_223 (n : Nat) (v6 : Int32) (v7 : Int32) (v8 : Int32) (v9 : Int32) (v10 : Int32) (v11 : Int32) (v13 : Int32) (v14 : Int32) (v15 : Int32) (v16 : Int32) (v17 : Int32) (v18 : Int32) (v19 : Int32) (v20 : Int32) (v21 : Int32) (F1 : Nat → Int32) (G1 : Nat → Int64) (A1 : Nat → Int32 → Int32) (B1 : Nat → Int32 → Int64) : lp_L_law (n + 1) 223  v6 v7 v8 v9 v10 v11 v13 v14 v15 v16 v17 v18 v19 v20 v21 F1 G1 A1 B1 = lp_L_law n 256 v6 v7 v8 v9 v10 v11 v13 v14 v15 v16 v17 v18 (if v14 < (3 : Int32) then (if (v6 - v15) < v10 then (0 : Int32) else (if (v7 - v16) < v11 then (0 : Int32) else (1 : Int32))) else (0 : Int32)) 0 0 F1 G1 A1 B1 := by
  rw [lp_L_law, if_neg (by decide), if_neg (by decide), if_neg (by decide), if_neg (by decide), if_neg (by decide), if_neg (by decide), if_neg (by decide), if_neg (by decide), if_neg (by decide), if_neg (by decide), if_pos rfl]
theorem lp_L_law_256 (n : Nat) (v6 : Int32) (v7 : Int32) (v8 : Int32) (v9 : Int32) (v10 : Int32) (v11 : Int32) (v13 : Int32) (v14 : Int32) (v15 : Int32) (v16 : Int32) (v17 : Int32) (v18 : Int32) (v19 : Int32) (v20 : Int32) (v21 : Int32) (F1 : Nat → Int32) (G1 : Nat → Int64) (A1 : Nat → Int32 → Int32) (B1 : Nat → Int32 → Int64) : lp_L_law (n + 1) 256  v6 v7 v8 v9 v10 v11 v13 v14 v15 v16 v17 v18 v19 v20 v21 F1 G1 A1 B1 = (if v18 = 0 then (if v18 = 0 then (if v19 = 0 then lp_L_law n 352 v6 v7 v8 v9 v10 v11 v13 v14 v15 v16 v17 0 0 (-1 : Int32) 0 F1 G1 A1 B1 else lp_L_law n 352 v6 v7 v8 v9 v10 v11 v13 v14 v15 v16 v17 0 0 (1 : Int32) 0 F1 G1 A1 B1) else lp_L_law n 352 v6 v7 v8 v9 v10 v11 v13 v14 v15 v16 v17 0 0 (0 : Int32) 0 F1 G1 A1 B1) else (if v19 = 0 then (if v18 = 0 then (if v19 = 0 then lp_L_law n 352 v6 v7 v8 v9 v10 v11 v13 v14 v15 v16 v17 0 0 (-1 : Int32) 0 F1 G1 A1 B1 else lp_L_law n 352 v6 v7 v8 v9 v10 v11 v13 v14 v15 v16 v17 0 0 (1 : Int32) 0 F1 G1 A1 B1) else lp_L_law n 352 v6 v7 v8 v9 v10 v11 v13 v14 v15 v16 v17 0 0 (0 : Int32) 0 F1 G1 A1 B1) else lp_L_law n 352 v6 v7 v8 v9 v10 v11 v13 v14 v15 v16 v17 0 0 (if 0 < (XT.cmpL (f_L_dom ((v13 * v8).toInt64) ((v13 * v9).toInt64) ((v6).toInt64) ((v7).toInt64)) (f_L_dom ((v14 * v10).toInt64) ((v14 * v11).toInt64) ((v6).toInt64) ((v7).toInt64))) then (1 : Int32) else (0 : Int32)) 0 F1 G1 A1 B1)) := by
  rw [lp_L_law, if_neg (by decide), if_neg (by decide), if_neg (by decide), if_neg (by decide), if_neg (by decide), if_neg (by decide), if_neg (by decide), if_neg (by decide), if_neg (by decide), if_neg (by decide), if_neg (by decide), if_pos rfl]
theorem lp_L_law_352 (n : Nat) (v6 : Int32) (v7 : Int32) (v8 : Int32) (v9 : Int32) (v10 : Int32) (v11 : Int32) (v13 : Int32) (v14 : Int32) (v15 : Int32) (v16 : Int32) (v17 : Int32) (v18 : Int32) (v19 : Int32) (v20 : Int32) (v21 : Int32) (F1 : Nat → Int32) (G1 : Nat → Int64) (A1 : Nat → Int32 → Int32) (B1 : Nat → Int32 → Int64) : lp_L_law (n + 1) 352  v6 v7 v8 v9 v10 v11 v13 v14 v15 v16 v17 v18 v19 v20 v21 F1 G1 A1 B1 = (if ((en_step F1 A1 B1 ).isSome = true) then lp_L_law n 359 v6 v7 v8 v9 v10 v11 v13 v14 v15 v16 v17 0 0 v20 (R_step F1 A1 B1 ).1 (R_step F1 A1 B1 ).2.1 G1 (R_step F1 A1 B1 ).2.2 B1 else none) := by
  rw [lp_L_law, if_neg (by decide), if_neg (by decide), if_neg (by decide), if_neg (by decide), if_neg (by decide), if_neg (by decide), if_neg (by decide), if_neg (by decide), if_neg (by decide), if_neg (by decide), if_neg (by decide), if_neg (by decide), if_pos rfl]
theorem lp_L_law_359 (n : Nat) (v6 : Int32) (v7 : Int32) (v8 : Int32) (v9 : Int32) (v10 : Int32) (v11 : Int32) (v13 : Int32) (v14 : Int32) (v15 : Int32) (v16 : Int32) (v17 : Int32) (v18 : Int32) (v19 : Int32) (v20 : Int32) (v21 : Int32) (F1 : Nat → Int32) (G1 : Nat → Int64) (A1 : Nat → Int32 → Int32) (B1 : Nat → Int32 → Int64) : lp_L_law (n + 1) 359  v6 v7 v8 v9 v10 v11 v13 v14 v15 v16 v17 v18 v19 v20 v21 F1 G1 A1 B1 = (if v20 = 0 then (if v21 = v13 then lp_L_law n 183 v6 v7 v8 v9 v10 v11 (v13 + (1 : Int32)) v14 (v15 + v8) (v16 + v9) (v17 + (1 : Int32)) 0 0 0 0 F1 G1 A1 B1 else some ((0 : Int32))) else (if v20 = (1 : Int32) then (if v21 = ((3 : Int32) + v14) then lp_L_law n 183 v6 v7 v8 v9 v10 v11 v13 (v14 + (1 : Int32)) (v15 + v10) (v16 + v11) (v17 + (1 : Int32)) 0 0 0 0 F1 G1 A1 B1 else some ((0 : Int32))) else (if v21 = (-1 : Int32) then lp_L_law n 183 v6 v7 v8 v9 v10 v11 v13 v14 v15 v16 (v17 + (1 : Int32)) 0 0 0 0 F1 G1 A1 B1 else some ((0 : Int32))))) := by
  rw [lp_L_law, if_neg (by decide), if_neg (by decide), if_neg (by decide), if_neg (by decide), if_neg (by decide), if_neg (by decide), if_neg (by decide), if_neg (by decide), if_neg (by decide), if_neg (by decide), if_neg (by decide), if_neg (by decide), if_neg (by decide), if_pos rfl]
set_option maxRecDepth 65536 in
set_option maxHeartbeats 4000000 in
theorem lpw_L_law {l : Launch} {Z : State} {a0 : Array Value} (H : OK Z a0) (sl : Int32) (sv : Int32 → Int32) : ∀ (n : Nat) (v6 : Int32) (v7 : Int32) (v8 : Int32) (v9 : Int32) (v10 : Int32) (v11 : Int32) (v13 : Int32) (v14 : Int32) (v15 : Int32) (v16 : Int32) (v17 : Int32) (v18 : Int32) (v19 : Int32) (v20 : Int32) (v21 : Int32) (F1 : Nat → Int32) (G1 : Nat → Int64) (A1 : Nat → Int32 → Int32) (B1 : Nat → Int32 → Int64) (r : Int32), (lp_L_law n 61  v6 v7 v8 v9 v10 v11 v13 v14 v15 v16 v17 v18 v19 v20 v21 F1 G1 A1 B1 = some r → Wk l Z (MoL Z cdC "DominantShareL3" false) md_L_law 61 [.unset, .unset, .unset, .unset, .unset, .unset, .val (.int v6), .val (.int v7), .val (.int v8), .val (.int v9), .val (.int v10), .val (.int v11), .val (.ref 1), .unset, .unset, .unset, .unset, .unset, .unset, .unset, .unset, .unset, .unset, .unset, .unset] [] (sl, sv, [(15, F1, G1, A1, B1)]) 16 324 (fun v _ => v = some (.int r))) ∧ (lp_L_law n 76  v6 v7 v8 v9 v10 v11 v13 v14 v15 v16 v17 v18 v19 v20 v21 F1 G1 A1 B1 = some r → Wk l Z (MoL Z cdC "DominantShareL3" false) md_L_law 76 [.unset, .unset, .unset, .unset, .unset, .unset, .val (.int v6), .val (.int v7), .val (.int v8), .val (.int v9), .val (.int v10), .val (.int v11), .val (.ref 1), .unset, .unset, .unset, .unset, .unset, .unset, .unset, .unset, .unset, .unset, .unset, .unset] [] (sl, sv, [(15, F1, G1, A1, B1)]) 16 324 (fun v _ => v = some (.int r))) ∧ (lp_L_law n 88  v6 v7 v8 v9 v10 v11 v13 v14 v15 v16 v17 v18 v19 v20 v21 F1 G1 A1 B1 = some r → Wk l Z (MoL Z cdC "DominantShareL3" false) md_L_law 88 [.unset, .unset, .unset, .unset, .unset, .unset, .val (.int v6), .val (.int v7), .val (.int v8), .val (.int v9), .val (.int v10), .val (.int v11), .val (.ref 1), .unset, .unset, .unset, .unset, .unset, .unset, .unset, .unset, .unset, .unset, .unset, .unset] [] (sl, sv, [(15, F1, G1, A1, B1)]) 16 324 (fun v _ => v = some (.int r))) ∧ (lp_L_law n 101  v6 v7 v8 v9 v10 v11 v13 v14 v15 v16 v17 v18 v19 v20 v21 F1 G1 A1 B1 = some r → Wk l Z (MoL Z cdC "DominantShareL3" false) md_L_law 101 [.unset, .unset, .unset, .unset, .unset, .unset, .val (.int v6), .val (.int v7), .val (.int v8), .val (.int v9), .val (.int v10), .val (.int v11), .val (.ref 1), .unset, .unset, .unset, .unset, .unset, .unset, .unset, .unset, .unset, .unset, .unset, .unset] [] (sl, sv, [(15, F1, G1, A1, B1)]) 16 324 (fun v _ => v = some (.int r))) ∧ (lp_L_law n 114  v6 v7 v8 v9 v10 v11 v13 v14 v15 v16 v17 v18 v19 v20 v21 F1 G1 A1 B1 = some r → Wk l Z (MoL Z cdC "DominantShareL3" false) md_L_law 114 [.unset, .unset, .unset, .unset, .unset, .unset, .val (.int v6), .val (.int v7), .val (.int v8), .val (.int v9), .val (.int v10), .val (.int v11), .val (.ref 1), .unset, .unset, .unset, .unset, .unset, .unset, .unset, .unset, .unset, .unset, .unset, .unset] [] (sl, sv, [(15, F1, G1, A1, B1)]) 16 324 (fun v _ => v = some (.int r))) ∧ (lp_L_law n 129  v6 v7 v8 v9 v10 v11 v13 v14 v15 v16 v17 v18 v19 v20 v21 F1 G1 A1 B1 = some r → Wk l Z (MoL Z cdC "DominantShareL3" false) md_L_law 129 [.unset, .unset, .unset, .unset, .unset, .unset, .val (.int v6), .val (.int v7), .val (.int v8), .val (.int v9), .val (.int v10), .val (.int v11), .val (.ref 1), .unset, .unset, .unset, .unset, .unset, .unset, .unset, .unset, .unset, .unset, .unset, .unset] [] (sl, sv, [(15, F1, G1, A1, B1)]) 16 324 (fun v _ => v = some (.int r))) ∧ (lp_L_law n 142  v6 v7 v8 v9 v10 v11 v13 v14 v15 v16 v17 v18 v19 v20 v21 F1 G1 A1 B1 = some r → Wk l Z (MoL Z cdC "DominantShareL3" false) md_L_law 142 [.unset, .unset, .unset, .unset, .unset, .unset, .val (.int v6), .val (.int v7), .val (.int v8), .val (.int v9), .val (.int v10), .val (.int v11), .val (.ref 1), .unset, .unset, .unset, .unset, .unset, .unset, .unset, .unset, .unset, .unset, .unset, .unset] [] (sl, sv, [(15, F1, G1, A1, B1)]) 16 324 (fun v _ => v = some (.int r))) ∧ (lp_L_law n 155  v6 v7 v8 v9 v10 v11 v13 v14 v15 v16 v17 v18 v19 v20 v21 F1 G1 A1 B1 = some r → Wk l Z (MoL Z cdC "DominantShareL3" false) md_L_law 155 [.unset, .unset, .unset, .unset, .unset, .unset, .val (.int v6), .val (.int v7), .val (.int v8), .val (.int v9), .val (.int v10), .val (.int v11), .val (.ref 1), .unset, .unset, .unset, .unset, .unset, .unset, .unset, .unset, .unset, .unset, .unset, .unset] [] (sl, sv, [(15, F1, G1, A1, B1)]) 16 324 (fun v _ => v = some (.int r))) ∧ (lp_L_law n 168  v6 v7 v8 v9 v10 v11 v13 v14 v15 v16 v17 v18 v19 v20 v21 F1 G1 A1 B1 = some r → Wk l Z (MoL Z cdC "DominantShareL3" false) md_L_law 168 [.unset, .unset, .unset, .unset, .unset, .unset, .val (.int v6), .val (.int v7), .val (.int v8), .val (.int v9), .val (.int v10), .val (.int v11), .val (.ref 1), .unset, .unset, .unset, .unset, .unset, .unset, .unset, .unset, .unset, .unset, .unset, .unset] [] (sl, sv, [(15, F1, G1, A1, B1)]) 16 324 (fun v _ => v = some (.int r))) ∧ (lp_L_law n 183  v6 v7 v8 v9 v10 v11 v13 v14 v15 v16 v17 v18 v19 v20 v21 F1 G1 A1 B1 = some r → Wk l Z (MoL Z cdC "DominantShareL3" false) md_L_law 183 [.unset, .unset, .unset, .unset, .unset, .unset, .val (.int v6), .val (.int v7), .val (.int v8), .val (.int v9), .val (.int v10), .val (.int v11), .val (.ref 1), .val (.int v13), .val (.int v14), .val (.int v15), .val (.int v16), .val (.int v17), .unset, .unset, .unset, .unset, .unset, .unset, .unset] [] (sl, sv, [(15, F1, G1, A1, B1)]) 16 324 (fun v _ => v = some (.int r))) ∧ (lp_L_law n 223  v6 v7 v8 v9 v10 v11 v13 v14 v15 v16 v17 v18 v19 v20 v21 F1 G1 A1 B1 = some r → Wk l Z (MoL Z cdC "DominantShareL3" false) md_L_law 223 [.unset, .unset, .unset, .unset, .unset, .unset, .val (.int v6), .val (.int v7), .val (.int v8), .val (.int v9), .val (.int v10), .val (.int v11), .val (.ref 1), .val (.int v13), .val (.int v14), .val (.int v15), .val (.int v16), .val (.int v17), .val (.int v18), .unset, .unset, .unset, .unset, .unset, .unset] [] (sl, sv, [(15, F1, G1, A1, B1)]) 16 324 (fun v _ => v = some (.int r))) ∧ (lp_L_law n 256  v6 v7 v8 v9 v10 v11 v13 v14 v15 v16 v17 v18 v19 v20 v21 F1 G1 A1 B1 = some r → Wk l Z (MoL Z cdC "DominantShareL3" false) md_L_law 256 [.unset, .unset, .unset, .unset, .unset, .unset, .val (.int v6), .val (.int v7), .val (.int v8), .val (.int v9), .val (.int v10), .val (.int v11), .val (.ref 1), .val (.int v13), .val (.int v14), .val (.int v15), .val (.int v16), .val (.int v17), .val (.int v18), .val (.int v19), .unset, .unset, .unset, .unset, .unset] [] (sl, sv, [(15, F1, G1, A1, B1)]) 16 324 (fun v _ => v = some (.int r))) ∧ (lp_L_law n 352  v6 v7 v8 v9 v10 v11 v13 v14 v15 v16 v17 v18 v19 v20 v21 F1 G1 A1 B1 = some r → Wk l Z (MoL Z cdC "DominantShareL3" false) md_L_law 352 [.unset, .unset, .unset, .unset, .unset, .unset, .val (.int v6), .val (.int v7), .val (.int v8), .val (.int v9), .val (.int v10), .val (.int v11), .val (.ref 1), .val (.int v13), .val (.int v14), .val (.int v15), .val (.int v16), .val (.int v17), .unset, .unset, .val (.int v20), .unset, .unset, .unset, .unset] [] (sl, sv, [(15, F1, G1, A1, B1)]) 16 324 (fun v _ => v = some (.int r))) ∧ (lp_L_law n 359  v6 v7 v8 v9 v10 v11 v13 v14 v15 v16 v17 v18 v19 v20 v21 F1 G1 A1 B1 = some r → Wk l Z (MoL Z cdC "DominantShareL3" false) md_L_law 359 [.unset, .unset, .unset, .unset, .unset, .unset, .val (.int v6), .val (.int v7), .val (.int v8), .val (.int v9), .val (.int v10), .val (.int v11), .val (.ref 1), .val (.int v13), .val (.int v14), .val (.int v15), .val (.int v16), .val (.int v17), .unset, .unset, .val (.int v20), .val (.int v21), .unset, .unset, .unset] [] (sl, sv, [(15, F1, G1, A1, B1)]) 16 324 (fun v _ => v = some (.int r))) := by
  intro n
  induction n with
  | zero =>
    intro v6 v7 v8 v9 v10 v11 v13 v14 v15 v16 v17 v18 v19 v20 v21 F1 G1 A1 B1 r
    exact ⟨(fun h => by rw [lp_L_law_z] at h; cases h), (fun h => by rw [lp_L_law_z] at h; cases h), (fun h => by rw [lp_L_law_z] at h; cases h), (fun h => by rw [lp_L_law_z] at h; cases h), (fun h => by rw [lp_L_law_z] at h; cases h), (fun h => by rw [lp_L_law_z] at h; cases h), (fun h => by rw [lp_L_law_z] at h; cases h), (fun h => by rw [lp_L_law_z] at h; cases h), (fun h => by rw [lp_L_law_z] at h; cases h), (fun h => by rw [lp_L_law_z] at h; cases h), (fun h => by rw [lp_L_law_z] at h; cases h), (fun h => by rw [lp_L_law_z] at h; cases h), (fun h => by rw [lp_L_law_z] at h; cases h), (fun h => by rw [lp_L_law_z] at h; cases h)⟩
  | succ n ih =>
    intro v6 v7 v8 v9 v10 v11 v13 v14 v15 v16 v17 v18 v19 v20 v21 F1 G1 A1 B1 r
    refine ⟨fun h => ?_, fun h => ?_, fun h => ?_, fun h => ?_, fun h => ?_, fun h => ?_, fun h => ?_, fun h => ?_, fun h => ?_, fun h => ?_, fun h => ?_, fun h => ?_, fun h => ?_, fun h => ?_⟩
    · rw [lp_L_law_61] at h
      exact wp_L_law_61 H sl sv F1 G1 A1 B1 v6 v7 v8 v9 v10 v11 (fun q1 => (ih _ _ _ _ _ _ _ _ _ _ _ _ _ _ _ _ _ _ _ _).2.1 (ifn q1 h)) (fun q1 => (rt_law (Option.some.inj (ifp q1 h))))
    · rw [lp_L_law_76] at h
      exact wp_L_law_76 H sl sv F1 G1 A1 B1 v6 v7 v8 v9 v10 v11 ((gd h).1) (fun q2 => (ih _ _ _ _ _ _ _ _ _ _ _ _ _ _ _ _ _ _ _ _).2.2.1 (ifp q2 (gd h).2)) (fun q2 => (rt_law (Option.some.inj (ifn q2 (gd h).2))))
    · rw [lp_L_law_88] at h
      exact wp_L_law_88 H sl sv F1 G1 A1 B1 v6 v7 v8 v9 v10 v11 ((gd h).1) (fun q2 => (ih _ _ _ _ _ _ _ _ _ _ _ _ _ _ _ _ _ _ _ _).2.2.2.1 (ifp q2 (gd h).2)) (fun q2 => (rt_law (Option.some.inj (ifn q2 (gd h).2))))
    · rw [lp_L_law_101] at h
      exact wp_L_law_101 H sl sv F1 G1 A1 B1 v6 v7 v8 v9 v10 v11 ((gd h).1) (fun q2 => (ih _ _ _ _ _ _ _ _ _ _ _ _ _ _ _ _ _ _ _ _).2.2.2.2.1 (ifp q2 (gd h).2)) (fun q2 => (rt_law (Option.some.inj (ifn q2 (gd h).2))))
    · rw [lp_L_law_114] at h
      exact wp_L_law_114 H sl sv F1 G1 A1 B1 v6 v7 v8 v9 v10 v11 (fun q1 => (ih _ _ _ _ _ _ _ _ _ _ _ _ _ _ _ _ _ _ _ _).2.2.2.2.2.1 (ifn q1 h)) (fun q1 => (rt_law (Option.some.inj (ifp q1 h))))
    · rw [lp_L_law_129] at h
      exact wp_L_law_129 H sl sv F1 G1 A1 B1 v6 v7 v8 v9 v10 v11 ((gd h).1) (fun q2 => (ih _ _ _ _ _ _ _ _ _ _ _ _ _ _ _ _ _ _ _ _).2.2.2.2.2.2.1 (ifp q2 (gd h).2)) (fun q2 => (rt_law (Option.some.inj (ifn q2 (gd h).2))))
    · rw [lp_L_law_142] at h
      exact wp_L_law_142 H sl sv F1 G1 A1 B1 v6 v7 v8 v9 v10 v11 ((gd h).1) (fun q2 => (ih _ _ _ _ _ _ _ _ _ _ _ _ _ _ _ _ _ _ _ _).2.2.2.2.2.2.2.1 (ifp q2 (gd h).2)) (fun q2 => (rt_law (Option.some.inj (ifn q2 (gd h).2))))
    · rw [lp_L_law_155] at h
      exact wp_L_law_155 H sl sv F1 G1 A1 B1 v6 v7 v8 v9 v10 v11 ((gd h).1) (fun q2 => (ih _ _ _ _ _ _ _ _ _ _ _ _ _ _ _ _ _ _ _ _).2.2.2.2.2.2.2.2.1 (ifp q2 (gd h).2)) (fun q2 => (rt_law (Option.some.inj (ifn q2 (gd h).2))))
    · rw [lp_L_law_168] at h
      exact wp_L_law_168 H sl sv F1 G1 A1 B1 v6 v7 v8 v9 v10 v11 ((ih _ _ _ _ _ _ _ _ _ _ _ _ _ _ _ _ _ _ _ _).2.2.2.2.2.2.2.2.2.1 h)
    · rw [lp_L_law_183] at h
      exact wp_L_law_183 H sl sv F1 G1 A1 B1 v6 v7 v8 v9 v10 v11 v13 v14 v15 v16 v17 (fun q1 => (gd (ifn q1 h)).1) (fun q1 q3 => (rt_law (Option.some.inj (ifn q3 (gd (ifn q1 h)).2)))) (fun q1 q3 => (gd (ifp q3 (gd (ifn q1 h)).2)).1) (fun q1 q3 q6 => (gd (ifp q6 (gd (ifp q3 (gd (ifn q1 h)).2)).2)).1) (fun q1 q3 q6 q8 => (rt_law (Option.some.inj (ifn q8 (gd (ifp q6 (gd (ifp q3 (gd (ifn q1 h)).2)).2)).2)))) (fun q1 q3 q6 q8 => (gd (ifp q8 (gd (ifp q6 (gd (ifp q3 (gd (ifn q1 h)).2)).2)).2)).1) (fun q1 q3 q6 q8 q11 => (gd (ifp q11 (gd (ifp q8 (gd (ifp q6 (gd (ifp q3 (gd (ifn q1 h)).2)).2)).2)).2)).1) (fun q1 q3 q6 q8 q11 q13 => (rt_law (Option.some.inj (ifn q13 (gd (ifp q11 (gd (ifp q8 (gd (ifp q6 (gd (ifp q3 (gd (ifn q1 h)).2)).2)).2)).2)).2)))) (fun q1 q3 q6 q8 q11 q13 => (gd (ifp q13 (gd (ifp q11 (gd (ifp q8 (gd (ifp q6 (gd (ifp q3 (gd (ifn q1 h)).2)).2)).2)).2)).2)).1) (fun q1 q3 q6 q8 q11 q13 q16 => (gd (ifp q16 (gd (ifp q13 (gd (ifp q11 (gd (ifp q8 (gd (ifp q6 (gd (ifp q3 (gd (ifn q1 h)).2)).2)).2)).2)).2)).2)).1) (fun q1 q3 q6 q8 q11 q13 q16 => (rt_law (Option.some.inj (gd (ifp q16 (gd (ifp q13 (gd (ifp q11 (gd (ifp q8 (gd (ifp q6 (gd (ifp q3 (gd (ifn q1 h)).2)).2)).2)).2)).2)).2)).2))) (fun q1 q3 q6 q8 q11 q13 q16 => (rt_law (Option.some.inj (ifn q16 (gd (ifp q13 (gd (ifp q11 (gd (ifp q8 (gd (ifp q6 (gd (ifp q3 (gd (ifn q1 h)).2)).2)).2)).2)).2)).2)))) (fun q1 q3 q6 q8 q11 => (rt_law (Option.some.inj (ifn q11 (gd (ifp q8 (gd (ifp q6 (gd (ifp q3 (gd (ifn q1 h)).2)).2)).2)).2)))) (fun q1 q3 q6 => (rt_law (Option.some.inj (ifn q6 (gd (ifp q3 (gd (ifn q1 h)).2)).2)))) (fun q1 => (ih _ _ _ _ _ _ _ _ _ _ _ _ _ _ _ _ _ _ _ _).2.2.2.2.2.2.2.2.2.2.1 (ifp q1 h))
    · rw [lp_L_law_223] at h
      exact wp_L_law_223 H sl sv F1 G1 A1 B1 v6 v7 v8 v9 v10 v11 v13 v14 v15 v16 v17 v18 ((ih _ _ _ _ _ _ _ _ _ _ _ _ _ _ _ _ _ _ _ _).2.2.2.2.2.2.2.2.2.2.2.1 h)
    · rw [lp_L_law_256] at h
      exact wp_L_law_256 H sl sv F1 G1 A1 B1 v6 v7 v8 v9 v10 v11 v13 v14 v15 v16 v17 v18 v19 (fun q1 q2 q3 => (ih _ _ _ _ _ _ _ _ _ _ _ _ _ _ _ _ _ _ _ _).2.2.2.2.2.2.2.2.2.2.2.2.1 (ifp q3 (ifp q2 (ifp q1 h)))) (fun q1 q2 q3 => (ih _ _ _ _ _ _ _ _ _ _ _ _ _ _ _ _ _ _ _ _).2.2.2.2.2.2.2.2.2.2.2.2.1 (ifn q3 (ifp q2 (ifp q1 h)))) (fun q1 q2 => (ih _ _ _ _ _ _ _ _ _ _ _ _ _ _ _ _ _ _ _ _).2.2.2.2.2.2.2.2.2.2.2.2.1 (ifn q2 (ifp q1 h))) (fun q1 q7 q8 q9 => (ih _ _ _ _ _ _ _ _ _ _ _ _ _ _ _ _ _ _ _ _).2.2.2.2.2.2.2.2.2.2.2.2.1 (ifp q9 (ifp q8 (ifp q7 (ifn q1 h))))) (fun q1 q7 q8 q9 => (ih _ _ _ _ _ _ _ _ _ _ _ _ _ _ _ _ _ _ _ _).2.2.2.2.2.2.2.2.2.2.2.2.1 (ifn q9 (ifp q8 (ifp q7 (ifn q1 h))))) (fun q1 q7 q8 => (ih _ _ _ _ _ _ _ _ _ _ _ _ _ _ _ _ _ _ _ _).2.2.2.2.2.2.2.2.2.2.2.2.1 (ifn q8 (ifp q7 (ifn q1 h)))) (fun q1 q7 => (ih _ _ _ _ _ _ _ _ _ _ _ _ _ _ _ _ _ _ _ _).2.2.2.2.2.2.2.2.2.2.2.2.1 (ifn q7 (ifn q1 h)))
    · rw [lp_L_law_352] at h
      exact wp_L_law_352 H sl sv F1 G1 A1 B1 v6 v7 v8 v9 v10 v11 v13 v14 v15 v16 v17 v20 ((gd h).1) ((ih _ _ _ _ _ _ _ _ _ _ _ _ _ _ _ _ _ _ _ _).2.2.2.2.2.2.2.2.2.2.2.2.2 (gd h).2)
    · rw [lp_L_law_359] at h
      exact wp_L_law_359 H sl sv F1 G1 A1 B1 v6 v7 v8 v9 v10 v11 v13 v14 v15 v16 v17 v20 v21 (fun q1 q2 q3 => (ih _ _ _ _ _ _ _ _ _ _ _ _ _ _ _ _ _ _ _ _).2.2.2.2.2.2.2.2.2.1 (ifp q3 (ifn q2 (ifn q1 h)))) (fun q1 q2 q3 => (rt_law (Option.some.inj (ifn q3 (ifn q2 (ifn q1 h)))))) (fun q1 q2 q6 => (ih _ _ _ _ _ _ _ _ _ _ _ _ _ _ _ _ _ _ _ _).2.2.2.2.2.2.2.2.2.1 (ifp q6 (ifp q2 (ifn q1 h)))) (fun q1 q2 q6 => (rt_law (Option.some.inj (ifn q6 (ifp q2 (ifn q1 h)))))) (fun q1 q9 => (ih _ _ _ _ _ _ _ _ _ _ _ _ _ _ _ _ _ _ _ _).2.2.2.2.2.2.2.2.2.1 (ifp q9 (ifp q1 h))) (fun q1 q9 => (rt_law (Option.some.inj (ifn q9 (ifp q1 h)))))
def en_L_law (p1 : Int32) (p2 : Int32) (p3 : Int32) (p4 : Int32) (p5 : Int32) (p6 : Int32) : Option (Int32) := lp_L_law 1000 61 ((4 : Int32) + (p1 &&& (15 : Int32))) ((4 : Int32) + (p2 &&& (15 : Int32))) ((1 : Int32) + (p3 &&& (3 : Int32))) ((1 : Int32) + (p4 &&& (3 : Int32))) ((1 : Int32) + (p5 &&& (3 : Int32))) ((1 : Int32) + (p6 &&& (3 : Int32))) 0 0 0 0 0 0 0 0 0 (F_init ((4 : Int32) + (p1 &&& (15 : Int32))) ((4 : Int32) + (p2 &&& (15 : Int32))) (1 : Int32) (2 : Int32)) (G_init ((4 : Int32) + (p1 &&& (15 : Int32))) ((4 : Int32) + (p2 &&& (15 : Int32))) (1 : Int32) (2 : Int32)) (A_init ((4 : Int32) + (p1 &&& (15 : Int32))) ((4 : Int32) + (p2 &&& (15 : Int32))) (1 : Int32) (2 : Int32)) (B_init ((4 : Int32) + (p1 &&& (15 : Int32))) ((4 : Int32) + (p2 &&& (15 : Int32))) (1 : Int32) (2 : Int32))
theorem een_L_law (p1 : Int32) (p2 : Int32) (p3 : Int32) (p4 : Int32) (p5 : Int32) (p6 : Int32) : en_L_law   p1 p2 p3 p4 p5 p6 = lp_L_law 1000 61 ((4 : Int32) + (p1 &&& (15 : Int32))) ((4 : Int32) + (p2 &&& (15 : Int32))) ((1 : Int32) + (p3 &&& (3 : Int32))) ((1 : Int32) + (p4 &&& (3 : Int32))) ((1 : Int32) + (p5 &&& (3 : Int32))) ((1 : Int32) + (p6 &&& (3 : Int32))) 0 0 0 0 0 0 0 0 0 (F_init ((4 : Int32) + (p1 &&& (15 : Int32))) ((4 : Int32) + (p2 &&& (15 : Int32))) (1 : Int32) (2 : Int32)) (G_init ((4 : Int32) + (p1 &&& (15 : Int32))) ((4 : Int32) + (p2 &&& (15 : Int32))) (1 : Int32) (2 : Int32)) (A_init ((4 : Int32) + (p1 &&& (15 : Int32))) ((4 : Int32) + (p2 &&& (15 : Int32))) (1 : Int32) (2 : Int32)) (B_init ((4 : Int32) + (p1 &&& (15 : Int32))) ((4 : Int32) + (p2 &&& (15 : Int32))) (1 : Int32) (2 : Int32)) := Eq.trans rfl rfl
set_option maxRecDepth 65536 in
set_option maxHeartbeats 4000000 in
theorem run_law {l : Launch} {Z : State} {a0 : Array Value} (H : OK Z a0) (sl : Int32) (sv : Int32 → Int32) (p1 : Int32) (p2 : Int32) (p3 : Int32) (p4 : Int32) (p5 : Int32) (p6 : Int32) (h : en_L_law  p1 p2 p3 p4 p5 p6 = some 1) : Wk l Z (MoL Z cdC "DominantShareL3" false) md_L_law 0 [.val (.int p1), .val (.int p2), .val (.int p3), .val (.int p4), .val (.int p5), .val (.int p6), .unset, .unset, .unset, .unset, .unset, .unset, .unset, .unset, .unset, .unset, .unset, .unset, .unset, .unset, .unset, .unset, .unset, .unset, .unset] [] (sl, sv, []) 0 0 (fun v _ => v = some (.int (1 : Int32))) := by
  rw [een_L_law] at h
  exact wp_L_law H sl sv p1 p2 p3 p4 p5 p6 ((lpw_L_law H sl sv  _ _ _ _ _ _ _ _ _ _ _ _ _ _ _ _ _ _ _ _ _).1 h)
def Ok {α : Type} (o : Option α) (P : α → Prop) : Prop := ∃ r, o = some r ∧ P r
theorem Ok.ret {α : Type} {r : α} {P : α → Prop} (h : P r) : Ok (some r) P := ⟨r, rfl, h⟩
theorem Ok.ift {α : Type} {c : Prop} [Decidable c] {x : Option α} {P : α → Prop} (h : c) (k : Ok x P) : Ok (if c then x else none) P := by rw [if_pos h]; exact k
theorem Ok.ite {α : Type} {c : Prop} [Decidable c] {x y : Option α} {P : α → Prop} (h : c → Ok x P) (k : ¬ c → Ok y P) : Ok (if c then x else y) P := by
  by_cases q : c
  · rw [if_pos q]; exact h q
  · rw [if_neg q]; exact k q
theorem Ok.mono {α : Type} {x : Option α} {P Q : α → Prop} (h : Ok x P) (k : ∀ r, P r → Q r) : Ok x Q := by
  obtain ⟨r, e, p⟩ := h; exact ⟨r, e, k r p⟩
theorem Ok.S {α : Type} {x : Option α} {P : α → Prop} (h : Ok x P) : x.isSome = true := by obtain ⟨r, e, p⟩ := h; rw [e]; rfl
theorem Ok.R {α : Type} {x : Option α} {R d : α} {P : α → Prop} (h : Ok x P) (e : R = x.getD d) : x.isSome = true ∧ P R := by
  obtain ⟨r, q, p⟩ := h; refine ⟨by rw [q]; rfl, ?_⟩; rw [e, q]; exact p
theorem fu_nxt {v c : Int32} {n : Nat} (h : v < c) (hn : c.toInt < v.toInt + ((n + 1 : Nat) : Int)) : c.toInt < (v + 1).toInt + (n : Int) := by
  rw [succ_toInt h]; omega
theorem fu_z {v c : Int32} (h : ¬ c < v) (hn : c.toInt < v.toInt + ((0 : Nat) : Int)) : False := by
  rw [lt_i] at h; omega
theorem ifS {α β : Type} {x : α} {a b : β} : (if (some x).isSome = true then a else b) = a := if_pos rfl
theorem r_of {α : Type} {R : α} {o : Option α} {d r : α} (e : R = o.getD d) (h : o = some r) : R = r := e.trans (getD_some h)
theorem toN (n : Nat) (h : n < 2147483648) : (Int32.ofNat n).toInt = n := Int32.toInt_ofNat_of_lt (by omega)
theorem mask_fin (p m : Int32) (k : Nat) (hk : k < 31) (hm : m.toBitVec.toNat = 2 ^ k - 1) : ∃ s : Fin (2 ^ k), p &&& m = Int32.ofNat s.1 := by
  have h := and_mask p m k hk hm
  have h3 : (2 ^ k : Nat) ≤ 2 ^ 30 := Nat.pow_le_pow_right (by decide) (by omega)
  have h4 : (2 ^ 30 : Nat) = 1073741824 := by decide
  have h5 : (0 : Int) < ((2 ^ k : Nat) : Int) := by have := Nat.two_pow_pos k; omega
  have h1 := Int.emod_nonneg p.toInt (Int.ne_of_gt h5)
  have h2 := Int.emod_lt_of_pos p.toInt h5
  refine ⟨⟨(p.toInt % ((2 ^ k : Nat) : Int)).toNat, by omega⟩, Int32.toInt_inj.mp ?_⟩
  show (p &&& m).toInt = (Int32.ofNat (p.toInt % ((2 ^ k : Nat) : Int)).toNat).toInt
  rw [h, toN _ (by omega)]; omega
theorem n1 : nar .boolean (1 : Int32) = 1 := by decide
theorem n0 : nar .boolean (0 : Int32) = 0 := by decide
theorem irr (z : Int32) : ¬ z < z := by grind
def av (A : Nat → Int32 → Int32) (u : Int32) : Int32 := if 0 < A 6 u then (if A 5 u < A 4 u then 1 else 0) else 0
theorem e_act (A : Nat → Int32 → Int32) (u : Int32) (h : ¬ u < 0 ∧ u < 8) : en_isActive A u = some (av A u) := by
  rw [een_isActive, if_pos ⟨h.1, h.2, fun _ => h.1, fun _ => h.2⟩]
  refine congrArg some ?_
  unfold av; split
  · split
    · exact n1
    · exact n0
  · exact n0
abbrev D2 (A : Nat → Int32 → Int32) : Prop := (A 8 0 = 0 ∨ A 8 0 = 1) ∧ (A 8 1 = 0 ∨ A 8 1 = 1)
def cv (A : Nat → Int32 → Int32) (p1 p2 : Int32) : Int32 := f_compareLong (((((A 9) (f_allocIndex p1 ((A 8) p1))).toInt64) * (((A 0) ((A 8) p2)).toInt64)) * (((A 3) p2).toInt64)) (((((A 9) (f_allocIndex p2 ((A 8) p2))).toInt64) * (((A 0) ((A 8) p1)).toInt64)) * (((A 3) p1).toInt64))
theorem cb : ∀ p r : Fin 2, ¬ f_allocIndex (Int32.ofNat p.1) (Int32.ofNat r.1) < 0 ∧ f_allocIndex (Int32.ofNat p.1) (Int32.ofNat r.1) < 24 := by decide
theorem cb' {p r : Int32} (hp : p = 0 ∨ p = 1) (hr : r = 0 ∨ r = 1) : ¬ f_allocIndex p r < 0 ∧ f_allocIndex p r < 24 ∧ ¬ r < 0 ∧ r < 3 ∧ ¬ p < 0 ∧ p < 8 := by
  rcases hp with rfl | rfl <;> rcases hr with rfl | rfl <;> decide
theorem d2u {A : Nat → Int32 → Int32} (d : D2 A) {u : Int32} (hu : u = 0 ∨ u = 1) : A 8 u = 0 ∨ A 8 u = 1 := by
  rcases hu with rfl | rfl
  · exact d.1
  · exact d.2
theorem e_cmp {A : Nat → Int32 → Int32} (d : D2 A) (u v : Int32) (hu : u = 0 ∨ u = 1) (hv : v = 0 ∨ v = 1) : en_compareUsers A u v = some (cv A u v) := by
  have a := cb' hu (d2u d hu)
  have b := cb' hv (d2u d hv)
  rw [een_compareUsers, if_pos ⟨a.2.2.2.2.1, a.2.2.2.2.2, b.2.2.2.2.1, b.2.2.2.2.2, a.1, a.2.1, b.2.2.1, b.2.2.2.1, b.1, b.2.1, a.2.2.1, a.2.2.2.1⟩]
  rfl
theorem ld_st {F : Nat → Int32} {A : Nat → Int32 → Int32} (f0 : F 0 = 2) (d : D2 A) (n : Nat) (b u : Int32) (hb : b = -1 ∨ b = 0 ∨ b = 1) (hu : u = 0 ∨ u = 1) : ∃ b', (b' = -1 ∨ b' = 0 ∨ b' = 1) ∧ lp_leader (n + 1) 4 b u F A = lp_leader n 4 b' (u + 1) F A := by
  have u8 : ¬ u < 0 ∧ u < 8 := by rcases hu with rfl | rfl <;> decide
  have u2 : u < 2 := by rcases hu with rfl | rfl <;> decide
  have e := e_act A u u8
  rw [lp_leader_4, f0, if_pos u2, r_of (eR_isActive A u) e, e]
  have hc : ¬ b < 0 → (en_compareUsers A u b).isSome = true := fun k => by
    have : b = 0 ∨ b = 1 := by
      rcases hb with rfl | h
      · exact absurd (by decide) k
      · exact h
    rw [e_cmp d u b hu this]; rfl
  rw [if_pos ⟨rfl, fun _ k => hc k⟩]
  refine ⟨_, ?_, rfl⟩
  have hu' : u = -1 ∨ u = 0 ∨ u = 1 := Or.inr hu
  split
  · exact hb
  · split
    · exact hu'
    · split
      · exact hu'
      · exact hb
theorem e_ld {F : Nat → Int32} {A : Nat → Int32 → Int32} (f0 : F 0 = 2) (d : D2 A) : ∃ l, (l = -1 ∨ l = 0 ∨ l = 1) ∧ en_leader F A = some l := by
  obtain ⟨b1, h1, e1⟩ := ld_st f0 d 999 (-1) 0 (Or.inl rfl) (Or.inl rfl)
  obtain ⟨b2, h2, e2⟩ := ld_st f0 d 998 b1 1 h1 (Or.inr rfl)
  refine ⟨b2, h2, ?_⟩
  rw [een_leader, show (1000 : Nat) = 999 + 1 from rfl, e1, show (0 : Int32) + 1 = 1 from by decide, e2, show (1 : Int32) + 1 = 2 from by decide, show (998 : Nat) = 997 + 1 from rfl, lp_leader_4, f0, if_neg (by decide)]
theorem isT {t : Int32} (a : ¬ t < 0) (b : t < 32) : ¬ f_isTask t = 0 := by
  rw [e_isTask, if_neg a, if_pos b]; decide
theorem isTn : f_isTask (-1) = 0 := by decide
abbrev Hd (A : Nat → Int32 → Int32) : Prop := ∀ u : Int32, (u = 0 ∨ u = 1) → A 7 u = -1 ∨ (¬ A 7 u < 0 ∧ A 7 u < 32 ∧ A 12 (A 7 u) = 1)
theorem e_ch {F : Nat → Int32} {A : Nat → Int32 → Int32} (f0 : F 0 = 2) (d : D2 A) (h : Hd A) : en_chooseReservation F A = some (-1) := by
  obtain ⟨l, hl, e⟩ := e_ld (F := F) f0 d
  rw [een_chooseReservation, r_of (eR_leader F A) e, e, ifS]
  rcases hl with rfl | hl
  · rw [if_pos (by decide)]
  · have l0 : ¬ l < 0 ∧ l < 8 := by rcases hl with rfl | rfl <;> decide
    rw [if_neg l0.1, if_pos l0.2]
    rcases h l hl with k | ⟨k0, k1, k2⟩
    · rw [k, if_pos isTn]
    · rw [if_neg (isT k0 k1), if_pos ⟨k0, k1⟩, k2, if_pos (by decide)]
theorem e_rule {F : Nat → Int32} {A : Nat → Int32 → Int32} (f0 : F 0 = 2) (f2 : F 2 = -1) (d : D2 A) (h : Hd A) : en_runReservationRule F A = some (0, F) := by
  have s : en_reservationIsStale F A = some 0 := by rw [een_reservationIsStale, if_pos (by rw [f2]; decide)]
  have c := e_ch (F := F) f0 d h
  rw [een_runReservationRule, r_of (eR_reservationIsStale F A) s, s, ifS, if_pos rfl, if_pos (by rw [f2]; decide), r_of (eR_chooseReservation F A) c, c, ifS, ← f2, ups_self]
theorem ix96 {t r : Int32} (a : ¬ t < 0) (b : t < 32) (c : ¬ r < 0) (d : r < 3) : ¬ t * 3 + r < 0 ∧ t * 3 + r < 96 := by constructor <;> grind
theorem o_need (A : Nat → Int32 → Int32) {t r : Int32} (a : ¬ t < 0) (b : t < 32) (c : ¬ r < 0) (d : r < 3) : en_needOf A t r = some (A 12 t * A 13 (t * 3 + r)) := by
  rw [een_needOf, if_pos ⟨a, b, (ix96 a b c d).1, (ix96 a b c d).2⟩]
theorem o_avail {F : Nat → Int32} (f2 : F 2 = -1) (A : Nat → Int32 → Int32) (u : Int32) {r : Int32} (c : ¬ r < 0) (d : r < 3) : en_availableFor F A u r = some (A 0 r - A 1 r) := by
  have e : en_freeOf A r = some (A 0 r - A 1 r) := by rw [een_freeOf, if_pos ⟨c, d⟩]
  rw [een_availableFor, r_of (eR_freeOf A r) e, e, ifS, f2, if_pos isTn]
theorem one_mul' (x : Int32) : (1 : Int32) * x = x := Int32.one_mul x
theorem e_hf {F : Nat → Int32} (f2 : F 2 = -1) {A : Nat → Int32 → Int32} {u t d0 d1 : Int32} (t0 : ¬ t < 0) (t1 : t < 32) (g : A 12 t = 1) (x0 : A 13 (t * 3 + 0) = d0) (x1 : A 13 (t * 3 + 1) = d1) (x2 : A 13 (t * 3 + 2) = 0) (p0 : ¬ d0 = 0) (p1 : ¬ d1 = 0) : en_headFits F A u t = some (if A 0 0 - A 1 0 < d0 then 0 else (if A 0 1 - A 1 1 < d1 then 0 else 1)) := by
  have z0 : ¬ (0 : Int32) < 0 := by decide
  have e0 := o_need A (r := 0) t0 t1 (by decide) (by decide)
  have e1 := o_need A (r := 1) t0 t1 (by decide) (by decide)
  have e2 := o_need A (r := 2) t0 t1 (by decide) (by decide)
  rw [g, x0, one_mul'] at e0
  rw [g, x1, one_mul'] at e1
  rw [g, x2, one_mul'] at e2
  have a0 := o_avail f2 A u (r := 0) (by decide) (by decide)
  have a1 := o_avail f2 A u (r := 1) (by decide) (by decide)
  have s0 : (0 : Int32) + 1 = 1 := by decide
  have s1 : (1 : Int32) + 1 = 2 := by decide
  have s2 : (2 : Int32) + 1 = 3 := by decide
  have h2 : ∀ n, lp_headFits (n + 2) 2 u t 2 F A = some 1 := fun n => by
    rw [lp_headFits_2, if_pos (by decide), r_of (eR_needOf A t 2) e2, e2, ifS, if_pos rfl, s2, lp_headFits_2, if_neg (by decide)]
  have h1 : ∀ n, lp_headFits (n + 3) 2 u t 1 F A = some (if A 0 1 - A 1 1 < d1 then 0 else 1) := fun n => by
    rw [lp_headFits_2, if_pos (by decide), r_of (eR_needOf A t 1) e1, e1, ifS, if_neg p1, r_of (eR_availableFor F A u 1) a1, a1, ifS, s1, h2]
    split <;> rfl
  rw [een_headFits, show (1000 : Nat) = 996 + 3 + 1 from rfl, lp_headFits_2, if_pos (by decide), r_of (eR_needOf A t 0) e0, e0, ifS, if_neg p0, r_of (eR_availableFor F A u 0) a0, a0, ifS, s0, h1]
  split <;> rfl
def fit (q f0 d0 f1 d1 : Int32) : Int32 := if q < 3 then (if f0 < d0 then 0 else (if f1 < d1 then 0 else 1)) else 0
theorem fit_nar (q f0 d0 f1 d1 : Int32) : nar .boolean (if f0 < d0 then (0 : Int32) else (if f1 < d1 then (0 : Int32) else 1)) = (if f0 < d0 then (0 : Int32) else (if f1 < d1 then (0 : Int32) else 1)) := by
  split
  · exact n0
  · split
    · exact n0
    · exact n1
theorem e_fu {F : Nat → Int32} (f2 : F 2 = -1) {A : Nat → Int32 → Int32} {u q t d0 d1 : Int32} (hu : u = 0 ∨ u = 1) (h4 : A 4 u = 32) (h5 : A 5 u = q) (h6 : A 6 u = 3 - q) (h7 : q < 3 → A 7 u = t ∧ (¬ t < 0) ∧ t < 32 ∧ A 12 t = 1 ∧ A 13 (t * 3 + 0) = d0 ∧ A 13 (t * 3 + 1) = d1 ∧ A 13 (t * 3 + 2) = 0) (q0 : ¬ q < 0) (q1 : ¬ 3 < q) (p0 : ¬ d0 = 0) (p1 : ¬ d1 = 0) : en_fitsUser F A u = some (fit q (A 0 0 - A 1 0) d0 (A 0 1 - A 1 1) d1) := by
  have u8 : ¬ u < 0 ∧ u < 8 := by rcases hu with rfl | rfl <;> decide
  have e := e_act A u u8
  rw [een_fitsUser, r_of (eR_isActive A u) e, e, ifS, av, h4, h5, h6, fit]
  by_cases k : q < 3
  · obtain ⟨a7, t0, t1, g, x0, x1, x2⟩ := h7 k
    have f := e_hf (u := u) f2 t0 t1 g x0 x1 x2 p0 p1
    rw [if_pos (show 0 < 3 - q by grind), if_pos (show q < 32 by grind), if_neg (by decide), if_pos u8, a7, if_neg (isT t0 t1), r_of (eR_headFits F A u t) f, f, ifS, if_pos k, fit_nar q]
  · rw [if_neg (show ¬ 0 < 3 - q by grind), if_pos rfl, if_neg k]
def who (f0 f1 c : Int32) : Int32 := if f0 = 0 then (if f1 = 0 then -1 else 1) else (if f1 = 0 then 0 else (if c < 0 then 1 else 0))
theorem e_bf {F : Nat → Int32} (f0 : F 0 = 2) {A : Nat → Int32 → Int32} (d : D2 A) {x y : Int32} (h0 : en_fitsUser F A 0 = some x) (h1 : en_fitsUser F A 1 = some y) : en_bestFittingUser F A = some (who x y (cv A 1 0)) := by
  have c := e_cmp d 1 0 (Or.inr rfl) (Or.inl rfl)
  rw [een_bestFittingUser, lp_bestFittingUser_4, f0, if_pos (by decide), r_of (eR_fitsUser F A 0) h0, h0, if_pos ⟨rfl, fun _ k => absurd (by decide) k⟩, show (0 : Int32) + 1 = 1 from by decide, if_pos (show (-1 : Int32) < 0 from by decide)]
  rw [lp_bestFittingUser_4, f0, if_pos (by decide), r_of (eR_fitsUser F A 1) h1, h1, show (1 : Int32) + 1 = 2 from by decide, who]
  by_cases k : x = 0
  · rw [if_pos k, if_pos k, if_pos ⟨rfl, fun _ k => absurd (by decide) k⟩, if_pos (show (-1 : Int32) < 0 from by decide), lp_bestFittingUser_4, f0, if_neg (by decide)]
  · rw [if_neg k, if_neg k, r_of (eR_compareUsers A 1 0) c, c, if_pos ⟨rfl, fun _ _ => rfl⟩, if_neg (show ¬ (0 : Int32) < 0 from by decide), lp_bestFittingUser_4, f0, if_neg (by decide)]
def aN (A : Nat → Int32 → Int32) (u r n : Int32) : Nat → Int32 → Int32 := ups (ups A 9 (ups (A 9) (f_allocIndex u r) (((A 9) (f_allocIndex u r)) + n))) 1 (ups (A 1) r (((A 1) r) + n))
theorem aN_j (A : Nat → Int32 → Int32) (u r n : Int32) (j : Nat) (h : ¬ j = 1) (h' : ¬ j = 9) : aN A u r n j = A j := by rw [aN, ups_ne _ _ h, ups_ne _ _ h']
theorem ua {u r : Int32} (hu : u = 0 ∨ u = 1) (hr : r = 0 ∨ r = 1 ∨ r = 2) : ¬ f_allocIndex u r < 0 ∧ f_allocIndex u r < 24 := by
  rcases hu with rfl | rfl <;> rcases hr with rfl | rfl | rfl <;> decide
theorem r3 {r : Int32} (hr : r = 0 ∨ r = 1 ∨ r = 2) : ¬ r < 0 ∧ r < 3 := by
  rcases hr with rfl | rfl | rfl <;> decide
theorem an_st (A : Nat → Int32 → Int32) {u t r : Int32} (hu : u = 0 ∨ u = 1) (hr : r = 0 ∨ r = 1 ∨ r = 2) (t0 : ¬ t < 0) (t1 : t < 32) (n : Nat) : lp_addNeed (n + 1) 2 u t r A = lp_addNeed n 2 u t (r + 1) (aN A u r (A 12 t * A 13 (t * 3 + r))) := by
  have e := o_need A t0 t1 (r3 hr).1 (r3 hr).2
  rw [lp_addNeed_2, if_pos (r3 hr).2, r_of (eR_needOf A t r) e, e, if_pos ⟨rfl, (ua hu hr).1, (ua hu hr).2, (r3 hr).1⟩]
  rfl
def aN3 (A : Nat → Int32 → Int32) (u x y z : Int32) : Nat → Int32 → Int32 := aN (aN (aN A u 0 x) u 1 y) u 2 z
theorem e_an (A : Nat → Int32 → Int32) {u t : Int32} (hu : u = 0 ∨ u = 1) (t0 : ¬ t < 0) (t1 : t < 32) : en_addNeed A u t = some (0, aN3 A u (A 12 t * A 13 (t * 3 + 0)) (A 12 t * A 13 (t * 3 + 1)) (A 12 t * A 13 (t * 3 + 2))) := by
  rw [een_addNeed, show (1000 : Nat) = 996 + 1 + 1 + 1 + 1 from rfl, an_st A hu (Or.inl rfl) t0 t1, show (0 : Int32) + 1 = 1 from by decide, an_st _ hu (Or.inr (Or.inl rfl)) t0 t1, show (1 : Int32) + 1 = 2 from by decide, an_st _ hu (Or.inr (Or.inr rfl)) t0 t1, show (2 : Int32) + 1 = 3 from by decide, lp_addNeed_2, if_neg (by decide), aN3]
  simp only [aN_j _ _ _ _ 12 (by decide) (by decide), aN_j _ _ _ _ 13 (by decide) (by decide)]
theorem aN3_j (A : Nat → Int32 → Int32) (u x y z : Int32) (j : Nat) (h : ¬ j = 1) (h' : ¬ j = 9) : aN3 A u x y z j = A j := by
  rw [aN3, aN_j _ _ _ _ j h h', aN_j _ _ _ _ j h h', aN_j _ _ _ _ j h h']
theorem aN3_1 (A : Nat → Int32 → Int32) (u x y z : Int32) : aN3 A u x y z 1 0 = A 1 0 + x ∧ aN3 A u x y z 1 1 = A 1 1 + y := by
  simp [aN3, aN, ups]
theorem ai00 : f_allocIndex 0 0 = 0 ∧ f_allocIndex 0 1 = 1 ∧ f_allocIndex 0 2 = 2 ∧ f_allocIndex 1 0 = 3 ∧ f_allocIndex 1 1 = 4 ∧ f_allocIndex 1 2 = 5 := by decide
theorem aN3_90 (A : Nat → Int32 → Int32) (x y z : Int32) : aN3 A 0 x y z 9 0 = A 9 0 + x ∧ aN3 A 0 x y z 9 1 = A 9 1 + y ∧ aN3 A 0 x y z 9 2 = A 9 2 + z ∧ aN3 A 0 x y z 9 3 = A 9 3 ∧ aN3 A 0 x y z 9 4 = A 9 4 ∧ aN3 A 0 x y z 9 5 = A 9 5 := by
  obtain ⟨h0, h1, h2, h3, h4, h5⟩ := ai00
  simp [aN3, aN, ups, h0, h1, h2]
theorem aN3_91 (A : Nat → Int32 → Int32) (x y z : Int32) : aN3 A 1 x y z 9 0 = A 9 0 ∧ aN3 A 1 x y z 9 1 = A 9 1 ∧ aN3 A 1 x y z 9 2 = A 9 2 ∧ aN3 A 1 x y z 9 3 = A 9 3 + x ∧ aN3 A 1 x y z 9 4 = A 9 4 + y ∧ aN3 A 1 x y z 9 5 = A 9 5 + z := by
  obtain ⟨h0, h1, h2, h3, h4, h5⟩ := ai00
  simp [aN3, aN, ups, h3, h4, h5]
theorem l_rh {A : Nat → Int32 → Int32} {B : Nat → Int32 → Int64} {u h : Int32} (hu : u = 0 ∨ u = 1) (p1 : ∀ t : Int32, ¬ t < 0 → t < 32 → A 10 t = 1 → A 11 t = u → ¬ h < 0 ∧ ¬ t < h) (p2 : h = -1 ∨ (¬ h < 0 ∧ h < 32 ∧ A 10 h = 1 ∧ A 11 h = u)) (p3 : ∀ t : Int32, ¬ h < 0 → h < t → t < 32 → A 10 t = 1 → A 11 t = u → ¬ XT.cmpL (B 14 t) (B 14 h) < 0) :
    ∀ (n : Nat) (v : Int32), ¬ v < 0 → ¬ 32 < v → (32 : Int32).toInt < v.toInt + (n : Int) → lp_recomputeHead n 15 u (if ¬ h < 0 ∧ h < v then h else -1) v A B = some (0, ups A 7 (ups (A 7) u h)) := by
  intro n
  induction n with
  | zero => exact fun v h0 h1 h2 => (fu_z h1 h2).elim
  | succ n ih =>
    intro v h0 h1 h2
    have u8 : ¬ u < 0 ∧ u < 8 := by rcases hu with rfl | rfl <;> decide
    rw [lp_recomputeHead_15]
    by_cases q : v < 32
    · have hv32 : ¬ (if ¬ h < 0 ∧ h < v then h else -1) < 0 → (if ¬ h < 0 ∧ h < v then h else -1) < 32 := by
        intro _
        split
        · rename_i w; clear ih p1 p2 p3; grind
        · decide
      rw [if_pos q, if_pos ⟨h0, fun _ => h0, fun _ _ _ => h0, fun _ _ w => hv32 w⟩]
      have go := ih (v + 1) (by clear ih p1 p2 p3; grind) (by clear ih p1 p2 p3; grind) (fu_nxt q h2)
      rw [← go]
      congr 1
      by_cases c : A 10 v = 1 ∧ A 11 v = u
      · obtain ⟨a1, a2⟩ := p1 v h0 q c.1 c.2
        rw [if_pos c.1, if_pos c.2, if_pos (show ¬ h < 0 ∧ h < v + 1 from ⟨a1, by clear ih p1 p2 p3 go; grind⟩)]
        by_cases e : h = v
        · have ex : (if ¬ h < 0 ∧ h < v then h else -1) = -1 := if_neg (fun w => irr h (by rw [← e] at w; exact w.2))
          rw [ex, if_pos (by decide), e]
        · have hv : h < v := by clear ih p1 p2 p3 go; grind
          have ex : (if ¬ h < 0 ∧ h < v then h else -1) = h := if_pos ⟨a1, hv⟩
          rw [ex, if_neg a1, if_neg (p3 v a1 hv q c.1 c.2)]
      · have ee : (if A 10 v = 1 then (if A 11 v = u then (if (if ¬ h < 0 ∧ h < v then h else -1) < 0 then v else if XT.cmpL (B 14 v) (B 14 (if ¬ h < 0 ∧ h < v then h else -1)) < 0 then v else (if ¬ h < 0 ∧ h < v then h else -1)) else (if ¬ h < 0 ∧ h < v then h else -1)) else (if ¬ h < 0 ∧ h < v then h else -1)) = (if ¬ h < 0 ∧ h < v then h else -1) := by
          by_cases c1 : A 10 v = 1
          · rw [if_pos c1, if_neg (fun c2 => c ⟨c1, c2⟩)]
          · rw [if_neg c1]
        rw [ee]
        have nv : ¬ h = v := by
          intro e
          rcases p2 with k | ⟨_, _, k1, k2⟩
          · rw [← e, k] at h0; exact h0 (by decide)
          · rw [e] at k1 k2; exact c ⟨k1, k2⟩
        have lt : h < v + 1 ↔ h < v := by clear ih p1 p2 p3 go ee; grind
        simp only [lt]
    · have v32 : v = 32 := by clear ih p1 p2 p3; grind
      subst v32
      rw [if_neg q, if_pos u8]
      rcases p2 with k | ⟨k0, k1, _, _⟩
      · rw [k, if_neg (fun w => w.1 (by decide))]
      · rw [if_pos ⟨k0, k1⟩]
theorem e_rh {A : Nat → Int32 → Int32} {B : Nat → Int32 → Int64} {u h : Int32} (hu : u = 0 ∨ u = 1) (p1 : ∀ t : Int32, ¬ t < 0 → t < 32 → A 10 t = 1 → A 11 t = u → ¬ h < 0 ∧ ¬ t < h) (p2 : h = -1 ∨ (¬ h < 0 ∧ h < 32 ∧ A 10 h = 1 ∧ A 11 h = u)) (p3 : ∀ t : Int32, ¬ h < 0 → h < t → t < 32 → A 10 t = 1 → A 11 t = u → ¬ XT.cmpL (B 14 t) (B 14 h) < 0) : en_recomputeHead A B u = some (0, ups A 7 (ups (A 7) u h)) := by
  have u8 : ¬ u < 0 ∧ u < 8 := by rcases hu with rfl | rfl <;> decide
  rw [een_recomputeHead, if_neg u8.1, if_pos u8.2]
  have := l_rh hu p1 p2 p3 1000 0 (by decide) (by decide) (by decide)
  rwa [if_neg (fun w => w.1 w.2)] at this
def B13 (x : Int32) : Prop := ∃ k : Fin 13, x = Int32.ofNat k.1
def C16 (c : Int32) : Prop := ∃ k : Fin 16, c = 4 + Int32.ofNat k.1
def dmn (x0 x1 c0 c1 : Int32) : Int32 := if 0 < XT.cmpL (x1.toInt64 * c0.toInt64) (x0.toInt64 * c1.toInt64) then 1 else 0
theorem dz : ∀ k : Fin 13, ∀ c : Fin 16, ¬ 0 < XT.cmpL ((0 : Int32).toInt64 * (4 + Int32.ofNat c.1).toInt64) ((Int32.ofNat k.1).toInt64 * (1 : Int32).toInt64) := by decide +kernel
theorem dz' {x c : Int32} (h : B13 x) (hc : C16 c) : ¬ 0 < XT.cmpL ((0 : Int32).toInt64 * c.toInt64) (x.toInt64 * (1 : Int32).toInt64) := by
  obtain ⟨k, rfl⟩ := h; obtain ⟨c, rfl⟩ := hc; exact dz k c
theorem e_rd {A : Nat → Int32 → Int32} {u x0 x1 c0 c1 : Int32} (hu : u = 0 ∨ u = 1) (h0 : A 9 (f_allocIndex u 0) = x0) (h1 : A 9 (f_allocIndex u 1) = x1) (h2 : A 9 (f_allocIndex u 2) = 0) (k0 : A 0 0 = c0) (k1 : A 0 1 = c1) (k2 : A 0 2 = 1) (b0 : B13 x0) (b1 : B13 x1) (d0 : C16 c0) (d1 : C16 c1) : en_recomputeDominant A u = some (0, ups A 8 (ups (A 8) u (dmn x0 x1 c0 c1))) := by
  have u8 : ¬ u < 0 ∧ u < 8 := by rcases hu with rfl | rfl <;> decide
  have a0 := ua hu (Or.inl rfl)
  have a1 := ua hu (Or.inr (Or.inl rfl))
  have a2 := ua hu (Or.inr (Or.inr rfl))
  rw [een_recomputeDominant, if_neg u8.1, if_pos u8.2, show (1000 : Nat) = 997 + 1 + 1 + 1 from rfl, lp_recomputeDominant_15, if_pos (by decide), if_pos ⟨a1.1, a1.2, by decide, by decide, a0.1, a0.2, by decide⟩, h0, h1, k0, k1, show (1 : Int32) + 1 = 2 from by decide]
  have dd : (if 0 < XT.cmpL (x1.toInt64 * c0.toInt64) (x0.toInt64 * c1.toInt64) then (1 : Int32) else 0) = dmn x0 x1 c0 c1 := rfl
  rw [dd]
  have s2 : (2 : Int32) + 1 = 3 := by decide
  have e3 : ∀ w, lp_recomputeDominant (997 + 1) 15 u w 3 A = some (0, ups A 8 (ups (A 8) u w)) := fun w => by rw [lp_recomputeDominant_15, if_neg (by decide), if_pos u8]
  have dc : dmn x0 x1 c0 c1 = 0 ∨ dmn x0 x1 c0 c1 = 1 := by unfold dmn; split; exact Or.inr rfl; exact Or.inl rfl
  rcases dc with e | e
  · rw [e, lp_recomputeDominant_15, if_pos (by decide), if_pos ⟨a2.1, a2.2, by decide, by decide, a0.1, a0.2, by decide⟩, h2, h0, k0, k2, if_neg (dz' b0 d0), s2, e3]
  · rw [e, lp_recomputeDominant_15, if_pos (by decide), if_pos ⟨a2.1, a2.2, by decide, by decide, a1.1, a1.2, by decide⟩, h2, h1, k1, k2, if_neg (dz' b1 d1), s2, e3]
def g1A (A : Nat → Int32 → Int32) (u t : Int32) : Nat → Int32 → Int32 := ups (ups (ups A 10 (ups (A 10) t 2)) 6 (ups (A 6) u (A 6 u - 1))) 5 (ups (A 5) u (A 5 u + 1))
def gA (A : Nat → Int32 → Int32) (u t x y h r : Int32) : Nat → Int32 → Int32 :=
  ups (ups (aN3 (g1A A u t) u x y 0) 7 (ups (aN3 (g1A A u t) u x y 0 7) u h)) 8 (ups (ups (aN3 (g1A A u t) u x y 0) 7 (ups (aN3 (g1A A u t) u x y 0 7) u h) 8) u r)
theorem g1A_j (A : Nat → Int32 → Int32) (u t : Int32) (j : Nat) (h : ¬ j = 10) (h' : ¬ j = 6) (h'' : ¬ j = 5) : g1A A u t j = A j := by rw [g1A, ups_ne _ _ h'', ups_ne _ _ h', ups_ne _ _ h]
theorem g1A_10 (A : Nat → Int32 → Int32) (u t : Int32) : g1A A u t 10 = ups (A 10) t 2 := by simp [g1A, ups]
theorem g1A_6 (A : Nat → Int32 → Int32) (u t : Int32) : g1A A u t 6 = ups (A 6) u (A 6 u - 1) := by simp [g1A, ups]
theorem g1A_5 (A : Nat → Int32 → Int32) (u t : Int32) : g1A A u t 5 = ups (A 5) u (A 5 u + 1) := by simp [g1A, ups]
section
variable (A : Nat → Int32 → Int32) (u t x y h r : Int32)
theorem gA_j (j : Nat) (a : ¬ j = 7) (b : ¬ j = 8) : gA A u t x y h r j = aN3 (g1A A u t) u x y 0 j := by rw [gA, ups_ne _ _ b, ups_ne _ _ a]
theorem gA_8 : gA A u t x y h r 8 = ups (A 8) u r := by rw [gA, ups_at, ups_ne _ _ (by decide), aN3_j _ _ _ _ _ 8 (by decide) (by decide), g1A_j _ _ _ 8 (by decide) (by decide) (by decide)]
theorem gA_7 : gA A u t x y h r 7 = ups (A 7) u h := by rw [gA, ups_ne _ _ (by decide), ups_at, aN3_j _ _ _ _ _ 7 (by decide) (by decide), g1A_j _ _ _ 7 (by decide) (by decide) (by decide)]
theorem gA_s (j : Nat) (h1 : ¬ j = 1) (h9 : ¬ j = 9) (h7 : ¬ j = 7) (h8 : ¬ j = 8) (h10 : ¬ j = 10) (h6 : ¬ j = 6) (h5 : ¬ j = 5) : gA A u t x y h r j = A j := by rw [gA_j _ _ _ _ _ _ _ j h7 h8, aN3_j _ _ _ _ _ j h1 h9, g1A_j _ _ _ j h10 h6 h5]
theorem gA_10 : gA A u t x y h r 10 = ups (A 10) t 2 := by rw [gA_j _ _ _ _ _ _ _ 10 (by decide) (by decide), aN3_j _ _ _ _ _ 10 (by decide) (by decide), g1A_10]
theorem gA_6 : gA A u t x y h r 6 = ups (A 6) u (A 6 u - 1) := by rw [gA_j _ _ _ _ _ _ _ 6 (by decide) (by decide), aN3_j _ _ _ _ _ 6 (by decide) (by decide), g1A_6]
theorem gA_5 : gA A u t x y h r 5 = ups (A 5) u (A 5 u + 1) := by rw [gA_j _ _ _ _ _ _ _ 5 (by decide) (by decide), aN3_j _ _ _ _ _ 5 (by decide) (by decide), g1A_5]
theorem gA_1 : gA A u t x y h r 1 0 = A 1 0 + x ∧ gA A u t x y h r 1 1 = A 1 1 + y := by
  rw [gA_j _ _ _ _ _ _ _ 1 (by decide) (by decide), (aN3_1 _ _ _ _ _).1, (aN3_1 _ _ _ _ _).2, g1A_j _ _ _ 1 (by decide) (by decide) (by decide)]; exact ⟨rfl, rfl⟩
end
theorem gA_90 (A : Nat → Int32 → Int32) (t x y h r : Int32) : gA A 0 t x y h r 9 0 = A 9 0 + x ∧ gA A 0 t x y h r 9 1 = A 9 1 + y ∧ gA A 0 t x y h r 9 2 = A 9 2 ∧ gA A 0 t x y h r 9 3 = A 9 3 ∧ gA A 0 t x y h r 9 4 = A 9 4 ∧ gA A 0 t x y h r 9 5 = A 9 5 := by
  rw [gA_j _ _ _ _ _ _ _ 9 (by decide) (by decide)]
  have := aN3_90 (g1A A 0 t) x y 0
  rw [g1A_j _ _ _ 9 (by decide) (by decide) (by decide), Int32.add_zero] at this; exact this
theorem gA_91 (A : Nat → Int32 → Int32) (t x y h r : Int32) : gA A 1 t x y h r 9 0 = A 9 0 ∧ gA A 1 t x y h r 9 1 = A 9 1 ∧ gA A 1 t x y h r 9 2 = A 9 2 ∧ gA A 1 t x y h r 9 3 = A 9 3 + x ∧ gA A 1 t x y h r 9 4 = A 9 4 + y ∧ gA A 1 t x y h r 9 5 = A 9 5 := by
  rw [gA_j _ _ _ _ _ _ _ 9 (by decide) (by decide)]
  have := aN3_91 (g1A A 1 t) x y 0
  rw [g1A_j _ _ _ 9 (by decide) (by decide) (by decide), Int32.add_zero] at this; exact this
theorem isU {F : Nat → Int32} (f0 : F 0 = 2) {u : Int32} (hu : u = 0 ∨ u = 1) : ¬ f_isUser F u = 0 := by
  rw [e_isUser, f0]; rcases hu with rfl | rfl <;> decide
theorem e_gr {F : Nat → Int32} (f0 : F 0 = 2) {A : Nat → Int32 → Int32} {B : Nat → Int32 → Int64} {u t x y h X0 X1 c0 c1 : Int32} (hu : u = 0 ∨ u = 1) (t0 : ¬ t < 0) (t1 : t < 32) (h11 : A 11 t = u) (h12 : A 12 t = 1) (hx : A 13 (t * 3 + 0) = x) (hy : A 13 (t * 3 + 1) = y) (hz : A 13 (t * 3 + 2) = 0)
    (p1 : ∀ s : Int32, ¬ s < 0 → s < 32 → ups (A 10) t 2 s = 1 → A 11 s = u → ¬ h < 0 ∧ ¬ s < h) (p2 : h = -1 ∨ (¬ h < 0 ∧ h < 32 ∧ ups (A 10) t 2 h = 1 ∧ A 11 h = u)) (p3 : ∀ s : Int32, ¬ h < 0 → h < s → s < 32 → ups (A 10) t 2 s = 1 → A 11 s = u → ¬ XT.cmpL (B 14 s) (B 14 h) < 0)
    (k0 : A 0 0 = c0) (k1 : A 0 1 = c1) (k2 : A 0 2 = 1) (v0 : ∀ h r, gA A u t x y h r 9 (f_allocIndex u 0) = X0) (v1 : ∀ h r, gA A u t x y h r 9 (f_allocIndex u 1) = X1) (v2 : ∀ h r, gA A u t x y h r 9 (f_allocIndex u 2) = 0) (b0 : B13 X0) (b1 : B13 X1) (d0 : C16 c0) (d1 : C16 c1) :
    en_grantTask F A B t = some (0, gA A u t x y h (dmn X0 X1 c0 c1)) := by
  have u8 : ¬ u < 0 ∧ u < 8 := by rcases hu with rfl | rfl <;> decide
  rw [een_grantTask, if_pos ⟨t0, t1⟩, h11, if_neg (isU f0 hu)]
  have e0 : (ups (ups (ups A 10 (ups (A 10) t (2 : Int32))) 6 (ups (A 6) u (((A 6) u) - (1 : Int32)))) 5 (ups (A 5) u (((A 5) u) + (1 : Int32)))) = g1A A u t := rfl
  rw [e0]
  have a := e_an (g1A A u t) hu t0 t1
  rw [g1A_j _ _ _ 12 (by decide) (by decide) (by decide), g1A_j _ _ _ 13 (by decide) (by decide) (by decide), h12, hx, hy, hz, one_mul', one_mul', one_mul'] at a
  have q10 : aN3 (g1A A u t) u x y 0 10 = ups (A 10) t 2 := by rw [aN3_j _ _ _ _ _ 10 (by decide) (by decide), g1A_10]
  have q11 : aN3 (g1A A u t) u x y 0 11 = A 11 := by rw [aN3_j _ _ _ _ _ 11 (by decide) (by decide), g1A_j _ _ _ 11 (by decide) (by decide) (by decide)]
  have b := e_rh (A := aN3 (g1A A u t) u x y 0) (B := B) (h := h) hu (by rw [q10, q11]; exact p1) (by rw [q10, q11]; exact p2) (by rw [q10, q11]; exact p3)
  have z9 : ∀ r, (ups (aN3 (g1A A u t) u x y 0) 7 (ups (aN3 (g1A A u t) u x y 0 7) u h)) 9 = gA A u t x y h r 9 := fun r => by rw [gA, ups_ne (f := ups (aN3 (g1A A u t) u x y 0) 7 (ups (aN3 (g1A A u t) u x y 0 7) u h)) _ (by decide)]
  have z0 : (ups (aN3 (g1A A u t) u x y 0) 7 (ups (aN3 (g1A A u t) u x y 0 7) u h)) 0 = A 0 := by rw [ups_ne _ _ (by decide), aN3_j _ _ _ _ _ 0 (by decide) (by decide), g1A_j _ _ _ 0 (by decide) (by decide) (by decide)]
  have c := e_rd (A := ups (aN3 (g1A A u t) u x y 0) 7 (ups (aN3 (g1A A u t) u x y 0 7) u h)) hu (by rw [z9 0]; exact v0 h 0) (by rw [z9 0]; exact v1 h 0) (by rw [z9 0]; exact v2 h 0) (by rw [z0]; exact k0) (by rw [z0]; exact k1) (by rw [z0]; exact k2) b0 b1 d0 d1
  rw [r_of (eR_addNeed _ _ _) a, a]
  dsimp only
  rw [r_of (eR_recomputeHead _ _ _) b, b]
  dsimp only
  rw [r_of (eR_recomputeDominant _ _) c, c, if_pos ⟨u8.1, u8.2, rfl, rfl, rfl⟩]
  rfl
def hd (k g : Int32) : Int32 := if g < 3 then k + g else -1
def stt (g0 g1 t : Int32) : Int32 := if t < 3 then (if t < g0 then 2 else 1) else (if t < 6 then (if t < 3 + g1 then 2 else 1) else 0)
abbrev Ss (a0 a1 b0 b1 : Int32) (A : Nat → Int32 → Int32) (B : Nat → Int32 → Int64) : Prop := ∀ t : Int32, ¬ t < 0 → t < 6 → A 11 t = (if t < 3 then 0 else 1) ∧ A 12 t = 1 ∧ A 13 (t * 3 + 0) = (if t < 3 then a0 else b0) ∧ A 13 (t * 3 + 1) = (if t < 3 then a1 else b1) ∧ A 13 (t * 3 + 2) = 0 ∧ B 14 t = t.toInt64
abbrev Zc (c0 c1 : Int32) (A : Nat → Int32 → Int32) : Prop := A 0 0 = c0 ∧ A 0 1 = c1 ∧ A 0 2 = 1 ∧ A 3 0 = 1 ∧ A 3 1 = 1 ∧ A 4 0 = 32 ∧ A 4 1 = 32
abbrev Z0 (a0 a1 c0 c1 g : Int32) (A : Nat → Int32 → Int32) : Prop := A 5 0 = g ∧ A 6 0 = 3 - g ∧ A 7 0 = hd 0 g ∧ A 9 0 = g * a0 ∧ A 9 1 = g * a1 ∧ A 9 2 = 0 ∧ A 8 0 = dmn (g * a0) (g * a1) c0 c1
abbrev Z1 (b0 b1 c0 c1 g : Int32) (A : Nat → Int32 → Int32) : Prop := A 5 1 = g ∧ A 6 1 = 3 - g ∧ A 7 1 = hd 3 g ∧ A 9 3 = g * b0 ∧ A 9 4 = g * b1 ∧ A 9 5 = 0 ∧ A 8 1 = dmn (g * b0) (g * b1) c0 c1
abbrev Z (a0 a1 b0 b1 c0 c1 g0 g1 u0 u1 : Int32) (F : Nat → Int32) (A : Nat → Int32 → Int32) (B : Nat → Int32 → Int64) : Prop := (F 0 = 2 ∧ F 2 = -1) ∧ Zc c0 c1 A ∧ (A 1 0 = u0 ∧ A 1 1 = u1) ∧ Z0 a0 a1 c0 c1 g0 A ∧ Z1 b0 b1 c0 c1 g1 A ∧ Ss a0 a1 b0 b1 A B ∧ ∀ t : Int32, ¬ t < 0 → t < 32 → A 10 t = stt g0 g1 t
theorem dmn_r (x0 x1 c0 c1 : Int32) : dmn x0 x1 c0 c1 = 0 ∨ dmn x0 x1 c0 c1 = 1 := by unfold dmn; split; exact Or.inr rfl; exact Or.inl rfl
def G4 (g : Int32) : Prop := g = 0 ∨ g = 1 ∨ g = 2 ∨ g = 3
def A4 (a : Int32) : Prop := ∃ k : Fin 4, a = 1 + Int32.ofNat k.1
theorem ga : ∀ g : Fin 4, ∀ a : Fin 4, ∃ k : Fin 13, Int32.ofNat g.1 * (1 + Int32.ofNat a.1) = Int32.ofNat k.1 := by decide +kernel
theorem G4f {g : Int32} (h : G4 g) : ∃ k : Fin 4, g = Int32.ofNat k.1 := by
  rcases h with rfl | rfl | rfl | rfl
  · exact ⟨0, rfl⟩
  · exact ⟨1, rfl⟩
  · exact ⟨2, rfl⟩
  · exact ⟨3, rfl⟩
theorem gab {g a : Int32} (h : G4 g) (k : A4 a) : B13 (g * a) := by
  obtain ⟨g, rfl⟩ := G4f h; obtain ⟨a, rfl⟩ := k; exact ga g a
theorem A4z {a : Int32} (k : A4 a) : ¬ a = 0 := by
  obtain ⟨a, rfl⟩ := k; revert a; decide
theorem G4r {g : Int32} (h : G4 g) : ¬ g < 0 ∧ ¬ 3 < g := by rcases h with rfl | rfl | rfl | rfl <;> decide
theorem G4n {g : Int32} (h : G4 g) (k : g < 3) : G4 (g + 1) := by
  rcases h with rfl | rfl | rfl | rfl
  · exact Or.inr (Or.inl (by decide))
  · exact Or.inr (Or.inr (Or.inl (by decide)))
  · exact Or.inr (Or.inr (Or.inr (by decide)))
  · exact absurd k (by decide)
theorem zD {a0 a1 b0 b1 c0 c1 g0 g1 u0 u1 : Int32} {F : Nat → Int32} {A : Nat → Int32 → Int32} {B : Nat → Int32 → Int64} (z : Z a0 a1 b0 b1 c0 c1 g0 g1 u0 u1 F A B) : D2 A := by
  obtain ⟨_, _, _, z0, z1, _⟩ := z
  refine ⟨?_, ?_⟩
  · rw [z0.2.2.2.2.2.2]; exact dmn_r _ _ _ _
  · rw [z1.2.2.2.2.2.2]; exact dmn_r _ _ _ _
theorem hd_r {g : Int32} (h : G4 g) : (hd 0 g = -1 ∨ (¬ hd 0 g < 0 ∧ hd 0 g < 6)) ∧ (hd 3 g = -1 ∨ (¬ hd 3 g < 0 ∧ hd 3 g < 6)) := by
  rcases h with rfl | rfl | rfl | rfl <;> decide
theorem t6 {t : Int32} (h : t < 6) : t < 32 := by grind
theorem zH {a0 a1 b0 b1 c0 c1 g0 g1 u0 u1 : Int32} {F : Nat → Int32} {A : Nat → Int32 → Int32} {B : Nat → Int32 → Int64} (z : Z a0 a1 b0 b1 c0 c1 g0 g1 u0 u1 F A B) (q0 : G4 g0) (q1 : G4 g1) : Hd A := by
  obtain ⟨_, _, _, z0, z1, ss, _⟩ := z
  intro u hu
  rcases hu with rfl | rfl
  · rw [z0.2.2.1]
    rcases (hd_r q0).1 with e | e
    · exact Or.inl e
    · exact Or.inr ⟨e.1, t6 e.2, (ss _ e.1 e.2).2.1⟩
  · rw [z1.2.2.1]
    rcases (hd_r q1).2 with e | e
    · exact Or.inl e
    · exact Or.inr ⟨e.1, t6 e.2, (ss _ e.1 e.2).2.1⟩
theorem f6 {t : Int32} (a : ¬ t < 0) (b : t < 6) : ∃ k : Fin 6, t = Int32.ofNat k.1 := by
  have : t = 0 ∨ t = 1 ∨ t = 2 ∨ t = 3 ∨ t = 4 ∨ t = 5 := by grind
  rcases this with rfl | rfl | rfl | rfl | rfl | rfl
  · exact ⟨0, rfl⟩
  · exact ⟨1, rfl⟩
  · exact ⟨2, rfl⟩
  · exact ⟨3, rfl⟩
  · exact ⟨4, rfl⟩
  · exact ⟨5, rfl⟩
theorem sq : ∀ s h : Fin 6, Int32.ofNat h.1 < Int32.ofNat s.1 → ¬ XT.cmpL (Int32.ofNat s.1).toInt64 (Int32.ofNat h.1).toInt64 < 0 := by decide +kernel
theorem sq' {s h : Int32} (a : ¬ s < 0) (b : s < 6) (c : ¬ h < 0) (d : h < 6) (e : h < s) : ¬ XT.cmpL s.toInt64 h.toInt64 < 0 := by
  obtain ⟨s, rfl⟩ := f6 a b; obtain ⟨h, rfl⟩ := f6 c d; exact sq s h e
theorem stt6 {g0 g1 s : Int32} (h : stt g0 g1 s = 1) : s < 6 := by
  unfold stt at h
  by_cases a : s < 3
  · grind
  · rw [if_neg a] at h
    by_cases b : s < 6
    · exact b
    · rw [if_neg b] at h; exact absurd h (by decide)
theorem up0 {g0 g1 t : Int32} (h : G4 g0) (k : g0 < 3) (t0 : ¬ t < 0) : (if t = g0 then (2 : Int32) else stt g0 g1 t) = stt (g0 + 1) g1 t := by
  unfold stt
  rcases h with rfl | rfl | rfl | rfl
  · grind
  · grind
  · grind
  · exact absurd k (by decide)
theorem up1 {g0 g1 t : Int32} (h : G4 g1) (k : g1 < 3) (t0 : ¬ t < 0) : (if t = 3 + g1 then (2 : Int32) else stt g0 g1 t) = stt g0 (g1 + 1) t := by
  unfold stt
  rcases h with rfl | rfl | rfl | rfl
  · grind
  · grind
  · grind
  · exact absurd k (by decide)
theorem hp0 {g0 g1 s : Int32} (h : G4 g0) (k : g0 < 3) (s0 : ¬ s < 0) (s3 : s < 3) (e : stt (g0 + 1) g1 s = 1) : ¬ hd 0 (g0 + 1) < 0 ∧ ¬ s < hd 0 (g0 + 1) := by
  unfold stt at e; unfold hd
  rcases h with rfl | rfl | rfl | rfl
  · grind
  · grind
  · grind
  · exact absurd k (by decide)
theorem hp1 {g0 g1 s : Int32} (h : G4 g1) (k : g1 < 3) (s0 : ¬ s < 3) (s3 : s < 6) (e : stt g0 (g1 + 1) s = 1) : ¬ hd 3 (g1 + 1) < 0 ∧ ¬ s < hd 3 (g1 + 1) := by
  unfold stt at e; unfold hd
  rcases h with rfl | rfl | rfl | rfl
  · grind
  · grind
  · grind
  · exact absurd k (by decide)
theorem hq0 {g0 g1 : Int32} (h : G4 g0) (k : g0 < 3) : hd 0 (g0 + 1) = -1 ∨ (¬ hd 0 (g0 + 1) < 0 ∧ hd 0 (g0 + 1) < 3 ∧ stt (g0 + 1) g1 (hd 0 (g0 + 1)) = 1) := by
  rcases h with rfl | rfl | rfl | rfl
  · exact Or.inr ⟨by decide, by decide, by unfold stt; simp [hd]⟩
  · exact Or.inr ⟨by decide, by decide, by unfold stt; simp [hd]⟩
  · exact Or.inl (by decide)
  · exact absurd k (by decide)
theorem hq1 {g0 g1 : Int32} (h : G4 g1) (k : g1 < 3) : hd 3 (g1 + 1) = -1 ∨ (¬ hd 3 (g1 + 1) < 3 ∧ hd 3 (g1 + 1) < 6 ∧ stt g0 (g1 + 1) (hd 3 (g1 + 1)) = 1) := by
  rcases h with rfl | rfl | rfl | rfl
  · exact Or.inr ⟨by decide, by decide, by unfold stt; simp [hd]⟩
  · exact Or.inr ⟨by decide, by decide, by unfold stt; simp [hd]⟩
  · exact Or.inl (by decide)
  · exact absurd k (by decide)
theorem l36 {t : Int32} (h : t < 3) : t < 6 := by grind
theorem n3 {t : Int32} (h : ¬ t < 3) : ¬ t < 0 := by grind
theorem m3 {g : Int32} : 3 - g - 1 = 3 - (g + 1) := by grind
theorem mu {g a : Int32} : g * a + a = (g + 1) * a := by grind
section
variable {a0 a1 b0 b1 c0 c1 g0 g1 u0 u1 : Int32} {F : Nat → Int32} {A : Nat → Int32 → Int32} {B : Nat → Int32 → Int64}
theorem gr0 (z : Z a0 a1 b0 b1 c0 c1 g0 g1 u0 u1 F A B) (q0 : G4 g0) (k : g0 < 3) (x0 : A4 a0) (x1 : A4 a1) (d0 : C16 c0) (d1 : C16 c1) :
    ∃ A', en_grantTask F A B g0 = some (0, A') ∧ Z a0 a1 b0 b1 c0 c1 (g0 + 1) g1 (u0 + a0) (u1 + a1) F A' B := by
  obtain ⟨ff, zc, zu, z0, z1, ss, sl⟩ := z
  have r := G4r q0
  have s := ss g0 r.1 (l36 k)
  rw [if_pos k, if_pos k, if_pos k] at s
  have n1' := G4n q0 k
  have s10 : ∀ t : Int32, ¬ t < 0 → t < 32 → ups (A 10) g0 2 t = stt (g0 + 1) g1 t := fun t a b => by
    rw [← up0 q0 k a]
    by_cases e : t = g0
    · rw [e, ups_at, if_pos rfl]
    · rw [ups_ne _ _ e, if_neg e]; exact sl t a b
  have lt3 : ∀ t : Int32, ¬ t < 0 → t < 6 → A 11 t = 0 → t < 3 := fun t a b e => by
    rw [(ss t a b).1] at e
    by_cases w : t < 3
    · exact w
    · rw [if_neg w] at e; exact absurd e (by decide)
  obtain ⟨i0, i1, i2, i3, i4, i5⟩ := ai00
  have gv := gA_90 A g0 a0 a1
  have h := e_gr (F := F) (A := A) (B := B) (u := 0) (t := g0) (x := a0) (y := a1) (h := hd 0 (g0 + 1)) (X0 := (g0 + 1) * a0) (X1 := (g0 + 1) * a1) (c0 := c0) (c1 := c1) ff.1 (Or.inl rfl) r.1 (t6 (l36 k)) s.1 s.2.1 s.2.2.1 s.2.2.2.1 s.2.2.2.2.1
    (fun t a b e f => by rw [s10 t a b] at e; exact hp0 q0 k a (lt3 t a (stt6 e) f) e)
    (by
      rcases hq0 (g1 := g1) q0 k with e | ⟨e1, e2, e3⟩
      · exact Or.inl e
      · refine Or.inr ⟨e1, t6 (l36 e2), ?_, ?_⟩
        · rw [s10 _ e1 (t6 (l36 e2))]; exact e3
        · rw [(ss _ e1 (l36 e2)).1, if_pos e2])
    (fun t c d e f g => by
      have t0 : ¬ t < 0 := by clear ss sl s10 lt3 gv; grind
      rw [s10 t t0 e] at f
      have t6' := stt6 f
      have h6 : hd 0 (g0 + 1) < 6 := by clear ss sl s10 lt3 gv; grind
      rw [(ss t t0 t6').2.2.2.2.2, (ss _ c h6).2.2.2.2.2]; exact sq' t0 t6' c h6 d)
    zc.1 zc.2.1 zc.2.2.1 (fun h r => by rw [i0, (gv h r).1, z0.2.2.2.1, mu]) (fun h r => by rw [i1, (gv h r).2.1, z0.2.2.2.2.1, mu]) (fun h r => by rw [i2, (gv h r).2.2.1, z0.2.2.2.2.2.1]) (gab n1' x0) (gab n1' x1) d0 d1
  refine ⟨_, h, ff, ?_, ?_, ?_, ?_, ?_, ?_⟩
  · simp only [Zc, gA_s _ _ _ _ _ _ _ 0 (by decide) (by decide) (by decide) (by decide) (by decide) (by decide) (by decide), gA_s _ _ _ _ _ _ _ 3 (by decide) (by decide) (by decide) (by decide) (by decide) (by decide) (by decide), gA_s _ _ _ _ _ _ _ 4 (by decide) (by decide) (by decide) (by decide) (by decide) (by decide) (by decide)]; exact zc
  · rw [(gA_1 _ _ _ _ _ _ _).1, (gA_1 _ _ _ _ _ _ _).2, zu.1, zu.2]; exact ⟨rfl, rfl⟩
  · refine ⟨?_, ?_, ?_, ?_, ?_, ?_, ?_⟩
    · rw [gA_5, ups_at, z0.1]
    · rw [gA_6, ups_at, z0.2.1, m3]
    · rw [gA_7, ups_at]
    · rw [(gv _ _).1, z0.2.2.2.1, mu]
    · rw [(gv _ _).2.1, z0.2.2.2.2.1, mu]
    · rw [(gv _ _).2.2.1, z0.2.2.2.2.2.1]
    · rw [gA_8, ups_at]
  · have o : ¬ (1 : Int32) = 0 := by decide
    refine ⟨?_, ?_, ?_, ?_, ?_, ?_, ?_⟩
    · rw [gA_5, ups_ne _ _ o]; exact z1.1
    · rw [gA_6, ups_ne _ _ o]; exact z1.2.1
    · rw [gA_7, ups_ne _ _ o]; exact z1.2.2.1
    · rw [(gv _ _).2.2.2.1]; exact z1.2.2.2.1
    · rw [(gv _ _).2.2.2.2.1]; exact z1.2.2.2.2.1
    · rw [(gv _ _).2.2.2.2.2]; exact z1.2.2.2.2.2.1
    · rw [gA_8, ups_ne _ _ o]; exact z1.2.2.2.2.2.2
  · intro t a b
    rw [gA_s _ _ _ _ _ _ _ 11 (by decide) (by decide) (by decide) (by decide) (by decide) (by decide) (by decide), gA_s _ _ _ _ _ _ _ 12 (by decide) (by decide) (by decide) (by decide) (by decide) (by decide) (by decide), gA_s _ _ _ _ _ _ _ 13 (by decide) (by decide) (by decide) (by decide) (by decide) (by decide) (by decide)]; exact ss t a b
  · intro t a b; rw [gA_10]; exact s10 t a b
theorem gr1 (z : Z a0 a1 b0 b1 c0 c1 g0 g1 u0 u1 F A B) (q1 : G4 g1) (k : g1 < 3) (x0 : A4 b0) (x1 : A4 b1) (d0 : C16 c0) (d1 : C16 c1) :
    ∃ A', en_grantTask F A B (3 + g1) = some (0, A') ∧ Z a0 a1 b0 b1 c0 c1 g0 (g1 + 1) (u0 + b0) (u1 + b1) F A' B := by
  obtain ⟨ff, zc, zu, z0, z1, ss, sl⟩ := z
  have r : ¬ 3 + g1 < 3 ∧ 3 + g1 < 6 := by
    rcases q1 with rfl | rfl | rfl | rfl
    · decide
    · decide
    · decide
    · exact absurd k (by decide)
  have s := ss (3 + g1) (n3 r.1) r.2
  rw [if_neg r.1, if_neg r.1, if_neg r.1] at s
  have n1' := G4n q1 k
  have s10 : ∀ t : Int32, ¬ t < 0 → t < 32 → ups (A 10) (3 + g1) 2 t = stt g0 (g1 + 1) t := fun t a b => by
    rw [← up1 q1 k a]
    by_cases e : t = 3 + g1
    · rw [e, ups_at, if_pos rfl]
    · rw [ups_ne _ _ e, if_neg e]; exact sl t a b
  have ge3 : ∀ t : Int32, ¬ t < 0 → t < 6 → A 11 t = 1 → ¬ t < 3 := fun t a b e w => by
    rw [(ss t a b).1, if_pos w] at e; exact absurd e (by decide)
  obtain ⟨i0, i1, i2, i3, i4, i5⟩ := ai00
  have gv := gA_91 A (3 + g1) b0 b1
  have h := e_gr (F := F) (A := A) (B := B) (u := 1) (t := 3 + g1) (x := b0) (y := b1) (h := hd 3 (g1 + 1)) (X0 := (g1 + 1) * b0) (X1 := (g1 + 1) * b1) (c0 := c0) (c1 := c1) ff.1 (Or.inr rfl) (n3 r.1) (t6 r.2) s.1 s.2.1 s.2.2.1 s.2.2.2.1 s.2.2.2.2.1
    (fun t a b e f => by rw [s10 t a b] at e; exact hp1 q1 k (ge3 t a (stt6 e) f) (stt6 e) e)
    (by
      rcases hq1 (g0 := g0) q1 k with e | ⟨e1, e2, e3⟩
      · exact Or.inl e
      · refine Or.inr ⟨n3 e1, t6 e2, ?_, ?_⟩
        · rw [s10 _ (n3 e1) (t6 e2)]; exact e3
        · rw [(ss _ (n3 e1) e2).1, if_neg e1])
    (fun t c d e f g => by
      have t0 : ¬ t < 0 := by clear ss sl s10 ge3 gv; grind
      rw [s10 t t0 e] at f
      have t6' := stt6 f
      have h6 : hd 3 (g1 + 1) < 6 := by clear ss sl s10 ge3 gv; grind
      rw [(ss t t0 t6').2.2.2.2.2, (ss _ c h6).2.2.2.2.2]; exact sq' t0 t6' c h6 d)
    zc.1 zc.2.1 zc.2.2.1 (fun h r => by rw [i3, (gv h r).2.2.2.1, z1.2.2.2.1, mu]) (fun h r => by rw [i4, (gv h r).2.2.2.2.1, z1.2.2.2.2.1, mu]) (fun h r => by rw [i5, (gv h r).2.2.2.2.2, z1.2.2.2.2.2.1]) (gab n1' x0) (gab n1' x1) d0 d1
  have o : ¬ (0 : Int32) = 1 := by decide
  refine ⟨_, h, ff, ?_, ?_, ?_, ?_, ?_, ?_⟩
  · simp only [Zc, gA_s _ _ _ _ _ _ _ 0 (by decide) (by decide) (by decide) (by decide) (by decide) (by decide) (by decide), gA_s _ _ _ _ _ _ _ 3 (by decide) (by decide) (by decide) (by decide) (by decide) (by decide) (by decide), gA_s _ _ _ _ _ _ _ 4 (by decide) (by decide) (by decide) (by decide) (by decide) (by decide) (by decide)]; exact zc
  · rw [(gA_1 _ _ _ _ _ _ _).1, (gA_1 _ _ _ _ _ _ _).2, zu.1, zu.2]; exact ⟨rfl, rfl⟩
  · refine ⟨?_, ?_, ?_, ?_, ?_, ?_, ?_⟩
    · rw [gA_5, ups_ne _ _ o]; exact z0.1
    · rw [gA_6, ups_ne _ _ o]; exact z0.2.1
    · rw [gA_7, ups_ne _ _ o]; exact z0.2.2.1
    · rw [(gv _ _).1]; exact z0.2.2.2.1
    · rw [(gv _ _).2.1]; exact z0.2.2.2.2.1
    · rw [(gv _ _).2.2.1]; exact z0.2.2.2.2.2.1
    · rw [gA_8, ups_ne _ _ o]; exact z0.2.2.2.2.2.2
  · refine ⟨?_, ?_, ?_, ?_, ?_, ?_, ?_⟩
    · rw [gA_5, ups_at, z1.1]
    · rw [gA_6, ups_at, z1.2.1, m3]
    · rw [gA_7, ups_at]
    · rw [(gv _ _).2.2.2.1, z1.2.2.2.1, mu]
    · rw [(gv _ _).2.2.2.2.1, z1.2.2.2.2.1, mu]
    · rw [(gv _ _).2.2.2.2.2, z1.2.2.2.2.2.1]
    · rw [gA_8, ups_at]
  · intro t a b
    rw [gA_s _ _ _ _ _ _ _ 11 (by decide) (by decide) (by decide) (by decide) (by decide) (by decide) (by decide), gA_s _ _ _ _ _ _ _ 12 (by decide) (by decide) (by decide) (by decide) (by decide) (by decide) (by decide), gA_s _ _ _ _ _ _ _ 13 (by decide) (by decide) (by decide) (by decide) (by decide) (by decide) (by decide)]; exact ss t a b
  · intro t a b; rw [gA_10]; exact s10 t a b
end
theorem cml : ∀ x y : Fin 13, ∀ c : Fin 16, XT.cmpL ((Int32.ofNat x.1).toInt64 * (4 + Int32.ofNat c.1).toInt64) ((Int32.ofNat y.1).toInt64 * (4 + Int32.ofNat c.1).toInt64) = XT.cmpL (Int32.ofNat x.1).toInt64 (Int32.ofNat y.1).toInt64 := by decide +kernel
theorem cml' {x y c d : Int32} (hx : B13 x) (hy : B13 y) (hc : C16 c) (hd : C16 d) : XT.cmpL (x.toInt64 * c.toInt64) (y.toInt64 * c.toInt64) = XT.cmpL (x.toInt64 * d.toInt64) (y.toInt64 * d.toInt64) := by
  obtain ⟨x, rfl⟩ := hx; obtain ⟨y, rfl⟩ := hy; obtain ⟨c, rfl⟩ := hc; obtain ⟨d, rfl⟩ := hd
  rw [cml, cml]
theorem cp_gt (p q : Int64) : 0 < XT.cmpL p q ↔ q < p := by
  unfold XT.cmpL
  by_cases a : q < p
  · rw [if_pos a]; exact ⟨fun _ => a, fun _ => by decide⟩
  · rw [if_neg a]
    by_cases b : p = q
    · rw [if_pos b]; exact ⟨fun h => absurd h (by decide), fun h => absurd h a⟩
    · rw [if_neg b]; exact ⟨fun h => absurd h (by decide), fun h => absurd h a⟩
theorem cp_lt (p q : Int64) : XT.cmpL p q < 0 ↔ p < q := by
  unfold XT.cmpL
  by_cases a : q < p
  · rw [if_pos a]; exact ⟨fun h => absurd h (by decide), fun h => by grind⟩
  · rw [if_neg a]
    by_cases b : p = q
    · rw [if_pos b]; exact ⟨fun h => absurd h (by decide), fun h => by grind⟩
    · rw [if_neg b]; exact ⟨fun _ => by grind, fun _ => by decide⟩
theorem dom0 {x0 x1 c0 c1 : Int32} (h : dmn x0 x1 c0 c1 = 0) : f_L_dom x0.toInt64 x1.toInt64 c0.toInt64 c1.toInt64 = x0.toInt64 * c1.toInt64 := by
  unfold dmn at h
  rw [e_L_dom]
  by_cases a : 0 < XT.cmpL (x1.toInt64 * c0.toInt64) (x0.toInt64 * c1.toInt64)
  · rw [if_pos a] at h; exact absurd h (by decide)
  · by_cases b : 0 < XT.cmpL (x0.toInt64 * c1.toInt64) (x1.toInt64 * c0.toInt64)
    · rw [if_pos b]
    · rw [if_neg b]; rw [cp_gt] at a b; grind
theorem dom1 {x0 x1 c0 c1 : Int32} (h : dmn x0 x1 c0 c1 = 1) : f_L_dom x0.toInt64 x1.toInt64 c0.toInt64 c1.toInt64 = x1.toInt64 * c0.toInt64 := by
  unfold dmn at h
  rw [e_L_dom]
  by_cases a : 0 < XT.cmpL (x1.toInt64 * c0.toInt64) (x0.toInt64 * c1.toInt64)
  · rw [if_neg]; rw [cp_gt] at a ⊢; grind
  · rw [if_neg a] at h; exact absurd h (by decide)
def al (d x0 x1 : Int32) : Int32 := if d = 0 then x0 else x1
theorem cmpU {x0 x1 y0 y1 c0 c1 : Int32} (hx0 : B13 x0) (hx1 : B13 x1) (hy0 : B13 y0) (hy1 : B13 y1) (h0 : C16 c0) (h1 : C16 c1) : XT.cmpL ((al (dmn x0 x1 c0 c1) x0 x1).toInt64 * (al (dmn y0 y1 c0 c1) c0 c1).toInt64) ((al (dmn y0 y1 c0 c1) y0 y1).toInt64 * (al (dmn x0 x1 c0 c1) c0 c1).toInt64) = XT.cmpL (f_L_dom x0.toInt64 x1.toInt64 c0.toInt64 c1.toInt64) (f_L_dom y0.toInt64 y1.toInt64 c0.toInt64 c1.toInt64) := by
  have o : ¬ (1 : Int32) = 0 := by decide
  rcases dmn_r x0 x1 c0 c1 with a | a <;> rcases dmn_r y0 y1 c0 c1 with b | b
  · rw [dom0 a, dom0 b, a, b]; unfold al; rw [if_pos rfl, if_pos rfl, if_pos rfl]; exact cml' hx0 hy0 h0 h1
  · rw [dom0 a, dom1 b, a, b]; unfold al; rw [if_pos rfl, if_neg o, if_neg o, if_pos rfl]
  · rw [dom1 a, dom0 b, a, b]; unfold al; rw [if_neg o, if_pos rfl, if_pos rfl, if_neg o]
  · rw [dom1 a, dom1 b, a, b]; unfold al; rw [if_neg o, if_neg o, if_neg o]; exact cml' hx1 hy1 h1 h0
theorem one64 (x : Int64) : x * (1 : Int32).toInt64 = x := by
  have : (1 : Int32).toInt64 = 1 := by decide
  rw [this, Int64.mul_one]
section
variable {a0 a1 b0 b1 c0 c1 g0 g1 u0 u1 : Int32} {F : Nat → Int32} {A : Nat → Int32 → Int32} {B : Nat → Int32 → Int64}
abbrev DA (a0 a1 c0 c1 g : Int32) : Int64 := f_L_dom ((g * a0).toInt64) ((g * a1).toInt64) c0.toInt64 c1.toInt64
theorem zal (z : Z a0 a1 b0 b1 c0 c1 g0 g1 u0 u1 F A B) : A 9 (f_allocIndex 0 (A 8 0)) = al (dmn (g0 * a0) (g0 * a1) c0 c1) (g0 * a0) (g0 * a1) ∧ A 9 (f_allocIndex 1 (A 8 1)) = al (dmn (g1 * b0) (g1 * b1) c0 c1) (g1 * b0) (g1 * b1) ∧ A 0 (A 8 0) = al (dmn (g0 * a0) (g0 * a1) c0 c1) c0 c1 ∧ A 0 (A 8 1) = al (dmn (g1 * b0) (g1 * b1) c0 c1) c0 c1 := by
  obtain ⟨_, zc, _, z0, z1, _⟩ := z
  obtain ⟨i0, i1, i2, i3, i4, i5⟩ := ai00
  have o : ¬ (1 : Int32) = 0 := by decide
  rw [z0.2.2.2.2.2.2, z1.2.2.2.2.2.2]
  refine ⟨?_, ?_, ?_, ?_⟩
  · rcases dmn_r (g0 * a0) (g0 * a1) c0 c1 with e | e
    · rw [e, i0, z0.2.2.2.1]; rfl
    · rw [e, i1, z0.2.2.2.2.1]; rfl
  · rcases dmn_r (g1 * b0) (g1 * b1) c0 c1 with e | e
    · rw [e, i3, z1.2.2.2.1]; rfl
    · rw [e, i4, z1.2.2.2.2.1]; rfl
  · rcases dmn_r (g0 * a0) (g0 * a1) c0 c1 with e | e
    · rw [e, zc.1]; rfl
    · rw [e, zc.2.1]; rfl
  · rcases dmn_r (g1 * b0) (g1 * b1) c0 c1 with e | e
    · rw [e, zc.1]; rfl
    · rw [e, zc.2.1]; rfl
theorem cv10 (z : Z a0 a1 b0 b1 c0 c1 g0 g1 u0 u1 F A B) (q0 : G4 g0) (q1 : G4 g1) (x0 : A4 a0) (x1 : A4 a1) (y0 : A4 b0) (y1 : A4 b1) (d0 : C16 c0) (d1 : C16 c1) : cv A 1 0 < 0 ↔ 0 < XT.cmpL (DA a0 a1 c0 c1 g0) (DA b0 b1 c0 c1 g1) := by
  obtain ⟨h1, h2, h3, h4⟩ := zal z
  rw [cv, h1, h2, h3, h4, z.2.1.2.2.2.1, z.2.1.2.2.2.2.1, one64, one64, e_compareLong, cmpU (gab q1 y0) (gab q1 y1) (gab q0 x0) (gab q0 x1) d0 d1]
  simp only [cp_lt, cp_gt]
  by_cases k : DA b0 b1 c0 c1 g1 < DA a0 a1 c0 c1 g0
  · rw [if_pos k]; exact ⟨fun _ => k, fun _ => by decide⟩
  · rw [if_neg k]; refine ⟨fun h => ?_, fun h => absurd h k⟩
    split at h
    · exact absurd h (by decide)
    · exact absurd h (by decide)
theorem cv01 (z : Z a0 a1 b0 b1 c0 c1 g0 g1 u0 u1 F A B) (q0 : G4 g0) (q1 : G4 g1) (x0 : A4 a0) (x1 : A4 a1) (y0 : A4 b0) (y1 : A4 b1) (d0 : C16 c0) (d1 : C16 c1) : cv A 0 1 = (if XT.cmpL (DA a0 a1 c0 c1 g0) (DA b0 b1 c0 c1 g1) < 0 then -1 else (if 0 < XT.cmpL (DA a0 a1 c0 c1 g0) (DA b0 b1 c0 c1 g1) then 1 else 0)) := by
  obtain ⟨h1, h2, h3, h4⟩ := zal z
  rw [cv, h1, h2, h3, h4, z.2.1.2.2.2.1, z.2.1.2.2.2.2.1, one64, one64, e_compareLong, cmpU (gab q0 x0) (gab q0 x1) (gab q1 y0) (gab q1 y1) d0 d1]
theorem zf0 (z : Z a0 a1 b0 b1 c0 c1 g0 g1 u0 u1 F A B) (q0 : G4 g0) (x0 : A4 a0) (x1 : A4 a1) : en_fitsUser F A 0 = some (fit g0 (c0 - u0) a0 (c1 - u1) a1) := by
  obtain ⟨ff, zc, zu, z0, z1, ss, sl⟩ := z
  have h := e_fu (F := F) ff.2 (A := A) (u := 0) (q := g0) (t := g0) (d0 := a0) (d1 := a1) (Or.inl rfl) zc.2.2.2.2.2.1 z0.1 z0.2.1 (fun k => by
    have s := ss g0 (G4r q0).1 (l36 k)
    rw [if_pos k, if_pos k, if_pos k] at s
    refine ⟨?_, (G4r q0).1, t6 (l36 k), s.2.1, s.2.2.1, s.2.2.2.1, s.2.2.2.2.1⟩
    rw [z0.2.2.1, hd, if_pos k, Int32.zero_add]) (G4r q0).1 (G4r q0).2 (A4z x0) (A4z x1)
  rw [zc.1, zc.2.1, zu.1, zu.2] at h; exact h
theorem zf1 (z : Z a0 a1 b0 b1 c0 c1 g0 g1 u0 u1 F A B) (q1 : G4 g1) (x0 : A4 b0) (x1 : A4 b1) : en_fitsUser F A 1 = some (fit g1 (c0 - u0) b0 (c1 - u1) b1) := by
  obtain ⟨ff, zc, zu, z0, z1, ss, sl⟩ := z
  have h := e_fu (F := F) ff.2 (A := A) (u := 1) (q := g1) (t := 3 + g1) (d0 := b0) (d1 := b1) (Or.inr rfl) zc.2.2.2.2.2.2 z1.1 z1.2.1 (fun k => by
    have r : ¬ 3 + g1 < 3 ∧ 3 + g1 < 6 := by
      rcases q1 with rfl | rfl | rfl | rfl
      · decide
      · decide
      · decide
      · exact absurd k (by decide)
    have s := ss (3 + g1) (n3 r.1) r.2
    rw [if_neg r.1, if_neg r.1, if_neg r.1] at s
    refine ⟨?_, n3 r.1, t6 r.2, s.2.1, s.2.2.1, s.2.2.2.1, s.2.2.2.2.1⟩
    rw [z1.2.2.1, hd, if_pos k]) (G4r q1).1 (G4r q1).2 (A4z x0) (A4z x1)
  rw [zc.1, zc.2.1, zu.1, zu.2] at h; exact h
theorem fit3 {q f0 d0 f1 d1 : Int32} (h : ¬ fit q f0 d0 f1 d1 = 0) : q < 3 := by
  unfold fit at h
  by_cases k : q < 3
  · exact k
  · rw [if_neg k] at h; exact absurd rfl h
abbrev W (a0 a1 b0 b1 c0 c1 g0 g1 u0 u1 : Int32) : Int32 := if fit g0 (c0 - u0) a0 (c1 - u1) a1 = 0 then (if fit g1 (c0 - u0) b0 (c1 - u1) b1 = 0 then -1 else 1) else (if fit g1 (c0 - u0) b0 (c1 - u1) b1 = 0 then 0 else (if 0 < XT.cmpL (DA a0 a1 c0 c1 g0) (DA b0 b1 c0 c1 g1) then 1 else 0))
theorem stp (z : Z a0 a1 b0 b1 c0 c1 g0 g1 u0 u1 F A B) (q0 : G4 g0) (q1 : G4 g1) (x0 : A4 a0) (x1 : A4 a1) (y0 : A4 b0) (y1 : A4 b1) (d0 : C16 c0) (d1 : C16 c1) :
    (W a0 a1 b0 b1 c0 c1 g0 g1 u0 u1 = -1 ∧ en_step F A B = some (-1, F, A)) ∨
    (W a0 a1 b0 b1 c0 c1 g0 g1 u0 u1 = 0 ∧ g0 < 3 ∧ ∃ A', en_step F A B = some (g0, F, A') ∧ Z a0 a1 b0 b1 c0 c1 (g0 + 1) g1 (u0 + a0) (u1 + a1) F A' B) ∨
    (W a0 a1 b0 b1 c0 c1 g0 g1 u0 u1 = 1 ∧ g1 < 3 ∧ ∃ A', en_step F A B = some (3 + g1, F, A') ∧ Z a0 a1 b0 b1 c0 c1 g0 (g1 + 1) (u0 + b0) (u1 + b1) F A' B) := by
  have hb := e_bf (F := F) z.1.1 (zD z) (zf0 z q0 x0 x1) (zf1 z q1 y0 y1)
  have ew : who (fit g0 (c0 - u0) a0 (c1 - u1) a1) (fit g1 (c0 - u0) b0 (c1 - u1) b1) (cv A 1 0) = W a0 a1 b0 b1 c0 c1 g0 g1 u0 u1 := by
    have c := cv10 z q0 q1 x0 x1 y0 y1 d0 d1
    unfold who W; simp only [c]
  rw [ew] at hb
  have t0 : W a0 a1 b0 b1 c0 c1 g0 g1 u0 u1 = 0 → g0 < 3 → (∃ A', en_step F A B = some (g0, F, A') ∧ Z a0 a1 b0 b1 c0 c1 (g0 + 1) g1 (u0 + a0) (u1 + a1) F A' B) := by
    intro e k
    obtain ⟨A', h1, h2⟩ := gr0 z q0 k x0 x1 d0 d1
    refine ⟨A', ?_, h2⟩
    have h7 : A 7 0 = g0 := by rw [z.2.2.2.1.2.2.1, hd, if_pos k, Int32.zero_add]
    have rl := e_rule (F := F) z.1.1 z.1.2 (zD h2) (zH h2 (G4n q0 k) q1)
    rw [e] at hb
    rw [een_step, r_of (eR_bestFittingUser F A) hb, hb, ifS, if_neg (by decide), if_pos (by decide), h7, if_neg (isT (G4r q0).1 (t6 (l36 k))), r_of (eR_grantTask F A B g0) h1, h1]
    dsimp only
    rw [r_of (eR_runReservationRule F A') rl, rl, if_pos ⟨rfl, rfl⟩]
  have t1 : W a0 a1 b0 b1 c0 c1 g0 g1 u0 u1 = 1 → g1 < 3 → (∃ A', en_step F A B = some (3 + g1, F, A') ∧ Z a0 a1 b0 b1 c0 c1 g0 (g1 + 1) (u0 + b0) (u1 + b1) F A' B) := by
    intro e k
    obtain ⟨A', h1, h2⟩ := gr1 z q1 k y0 y1 d0 d1
    refine ⟨A', ?_, h2⟩
    have r : ¬ 3 + g1 < 3 ∧ 3 + g1 < 6 := by
      rcases q1 with rfl | rfl | rfl | rfl
      · decide
      · decide
      · decide
      · exact absurd k (by decide)
    have h7 : A 7 1 = 3 + g1 := by rw [z.2.2.2.2.1.2.2.1, hd, if_pos k]
    have rl := e_rule (F := F) z.1.1 z.1.2 (zD h2) (zH h2 q0 (G4n q1 k))
    rw [e] at hb
    rw [een_step, r_of (eR_bestFittingUser F A) hb, hb, ifS, if_neg (by decide), if_pos (by decide), h7, if_neg (isT (n3 r.1) (t6 r.2)), r_of (eR_grantTask F A B (3 + g1)) h1, h1]
    dsimp only
    rw [r_of (eR_runReservationRule F A') rl, rl, if_pos ⟨rfl, rfl⟩]
  by_cases k0 : fit g0 (c0 - u0) a0 (c1 - u1) a1 = 0
  · by_cases k1 : fit g1 (c0 - u0) b0 (c1 - u1) b1 = 0
    · have e : W a0 a1 b0 b1 c0 c1 g0 g1 u0 u1 = -1 := by unfold W; rw [if_pos k0, if_pos k1]
      refine Or.inl ⟨e, ?_⟩
      rw [e] at hb
      rw [een_step, r_of (eR_bestFittingUser F A) hb, hb, ifS, if_pos (by decide)]
    · have e : W a0 a1 b0 b1 c0 c1 g0 g1 u0 u1 = 1 := by unfold W; rw [if_pos k0, if_neg k1]
      exact Or.inr (Or.inr ⟨e, fit3 k1, t1 e (fit3 k1)⟩)
  · by_cases k1 : fit g1 (c0 - u0) b0 (c1 - u1) b1 = 0
    · have e : W a0 a1 b0 b1 c0 c1 g0 g1 u0 u1 = 0 := by unfold W; rw [if_neg k0, if_pos k1]
      exact Or.inr (Or.inl ⟨e, fit3 k0, t0 e (fit3 k0)⟩)
    · by_cases k2 : 0 < XT.cmpL (DA a0 a1 c0 c1 g0) (DA b0 b1 c0 c1 g1)
      · have e : W a0 a1 b0 b1 c0 c1 g0 g1 u0 u1 = 1 := by unfold W; rw [if_neg k0, if_neg k1, if_pos k2]
        exact Or.inr (Or.inr ⟨e, fit3 k1, t1 e (fit3 k1)⟩)
      · have e : W a0 a1 b0 b1 c0 c1 g0 g1 u0 u1 = 0 := by unfold W; rw [if_neg k0, if_neg k1, if_neg k2]
        exact Or.inr (Or.inl ⟨e, fit3 k0, t0 e (fit3 k0)⟩)
end
abbrev Sm (a0 a1 b0 b1 m : Int32) (A : Nat → Int32 → Int32) (B : Nat → Int32 → Int64) : Prop := ∀ t : Int32, ¬ t < 0 → t < m → A 11 t = (if t < 3 then 0 else 1) ∧ A 12 t = 1 ∧ A 13 (t * 3 + 0) = (if t < 3 then a0 else b0) ∧ A 13 (t * 3 + 1) = (if t < 3 then a1 else b1) ∧ A 13 (t * 3 + 2) = 0 ∧ B 14 t = t.toInt64
abbrev Pu (m : Int32) (A : Nat → Int32 → Int32) : Prop := A 5 0 = 0 ∧ A 5 1 = 0 ∧ A 6 0 = (if m < 3 then m else 3) ∧ A 6 1 = (if m < 3 then 0 else m - 3) ∧ A 7 0 = (if m = 0 then -1 else 0) ∧ A 7 1 = (if m < 4 then -1 else 3) ∧ A 8 0 = 0 ∧ A 8 1 = 0
abbrev Pz (A : Nat → Int32 → Int32) : Prop := A 1 0 = 0 ∧ A 1 1 = 0 ∧ A 9 0 = 0 ∧ A 9 1 = 0 ∧ A 9 2 = 0 ∧ A 9 3 = 0 ∧ A 9 4 = 0 ∧ A 9 5 = 0
abbrev Pm (a0 a1 b0 b1 c0 c1 m : Int32) (F : Nat → Int32) (G : Nat → Int64) (A : Nat → Int32 → Int32) (B : Nat → Int32 → Int64) : Prop := (F 0 = 2 ∧ F 2 = -1 ∧ F 1 = 32 - m) ∧ G 0 = m.toInt64 ∧ Zc c0 c1 A ∧ Pu m A ∧ Pz A ∧ Sm a0 a1 b0 b1 m A B ∧ ∀ t : Int32, ¬ t < 0 → t < 32 → A 10 t = if t < m then 1 else 0
abbrev Sg (x y : Int32) (A : Nat → Int32 → Int32) : Prop := A 2 0 = x ∧ A 2 1 = y ∧ A 2 2 = 0
theorem nf : ∀ a : Fin 4, ∀ c : Fin 16, ¬ 0 < XT.cmpL ((1 : Int32).toInt64 * (1 + Int32.ofNat a.1).toInt64) (4 + Int32.ofNat c.1).toInt64 := by decide +kernel
theorem nf' {a c : Int32} (ha : A4 a) (hc : C16 c) : ¬ 0 < XT.cmpL ((1 : Int32).toInt64 * a.toInt64) c.toInt64 := by
  obtain ⟨a, rfl⟩ := ha; obtain ⟨c, rfl⟩ := hc; exact nf a c
theorem e_nf {A : Nat → Int32 → Int32} {x y c0 c1 : Int32} (s : Sg x y A) (zc : Zc c0 c1 A) (hx : A4 x) (hy : A4 y) (d0 : C16 c0) (d1 : C16 c1) : en_stagedNeverFits A 1 = some 0 := by
  rw [een_stagedNeverFits, show (1000 : Nat) = 996 + 1 + 1 + 1 + 1 from rfl, lp_stagedNeverFits_2, if_pos (by decide), if_pos (by decide), s.1, zc.1, if_neg (nf' hx d0), show (0 : Int32) + 1 = 1 from by decide, lp_stagedNeverFits_2, if_pos (by decide), if_pos (by decide), s.2.1, zc.2.1, if_neg (nf' hy d1), show (1 : Int32) + 1 = 2 from by decide, lp_stagedNeverFits_2, if_pos (by decide), if_pos (by decide), s.2.2, zc.2.2.1, if_neg (by decide), show (2 : Int32) + 1 = 3 from by decide, lp_stagedNeverFits_2, if_neg (by decide)]
theorem l_lf {F : Nat → Int32} {A : Nat → Int32 → Int32} {m : Int32} (m6 : m < 6) (m0 : ¬ m < 0) (h : ∀ t : Int32, ¬ t < 0 → t < 32 → A 10 t = if t < m then 1 else 0) : ∀ (n : Nat) (v : Int32), ¬ v < 0 → ¬ m < v → (6 : Int32).toInt < v.toInt + (n : Int) → lp_lowestFreeSlot n 11 v F A = some m := by
  intro n
  induction n with
  | zero => exact fun v _ h1 h2 => (fu_z (show ¬ (6 : Int32) < v by grind) h2).elim
  | succ n ih =>
    intro v h0 h1 h2
    have v32 : v < 32 := by clear ih h; grind
    rw [lp_lowestFreeSlot_11, if_pos v32, if_pos h0, h v h0 v32]
    by_cases q : v < m
    · rw [if_pos q, if_neg (by decide)]
      exact ih (v + 1) (by clear ih h; grind) (by clear ih h; grind) (fu_nxt (by clear ih h; grind) h2)
    · have : v = m := by clear ih h; grind
      rw [if_neg q, if_pos rfl, this]
def o1 (A : Nat → Int32 → Int32) (m u : Int32) : Nat → Int32 → Int32 := ups (ups (ups A 10 (ups (A 10) m 1)) 11 (ups (A 11) m u)) 12 (ups (A 12) m 1)
def o3 (A : Nat → Int32 → Int32) (m r x : Int32) : Nat → Int32 → Int32 := ups A 13 (ups (A 13) (m * 3 + r) x)
def oA (A : Nat → Int32 → Int32) (m u x y : Int32) : Nat → Int32 → Int32 := o3 (o3 (o3 (o1 A m u) m 0 x) m 1 y) m 2 0
theorem o3_j (A : Nat → Int32 → Int32) (m r x : Int32) (j : Nat) (h : ¬ j = 13) : o3 A m r x j = A j := ups_ne _ _ h
theorem o1_j (A : Nat → Int32 → Int32) (m u : Int32) (j : Nat) (h : ¬ j = 10) (h' : ¬ j = 11) (h'' : ¬ j = 12) : o1 A m u j = A j := by rw [o1, ups_ne _ _ h'', ups_ne _ _ h', ups_ne _ _ h]
theorem oA_j (A : Nat → Int32 → Int32) (m u x y : Int32) (j : Nat) (h : j < 10) : oA A m u x y j = A j := by
  rw [oA, o3_j _ _ _ _ j (by omega), o3_j _ _ _ _ j (by omega), o3_j _ _ _ _ j (by omega), o1_j _ _ _ j (by omega) (by omega) (by omega)]
theorem oA_10 (A : Nat → Int32 → Int32) (m u x y : Int32) : oA A m u x y 10 = ups (A 10) m 1 ∧ oA A m u x y 11 = ups (A 11) m u ∧ oA A m u x y 12 = ups (A 12) m 1 := by
  refine ⟨?_, ?_, ?_⟩ <;> simp [oA, o3, o1, ups]
theorem oA_13 (A : Nat → Int32 → Int32) (m u x y : Int32) : oA A m u x y 13 = ups (ups (ups (A 13) (m * 3 + 0) x) (m * 3 + 1) y) (m * 3 + 2) 0 := by
  simp [oA, o3, o1, ups]
def oB (A : Nat → Int32 → Int32) (m u x y : Int32) : Nat → Int32 → Int32 := if A 7 u < 0 then ups (ups (oA A m u x y) 6 (ups (oA A m u x y 6) u (oA A m u x y 6 u + 1))) 7 (ups (oA A m u x y 7) u m) else ups (oA A m u x y) 6 (ups (oA A m u x y 6) u (oA A m u x y 6 u + 1))
theorem e_oc {F : Nat → Int32} {G : Nat → Int64} {A : Nat → Int32 → Int32} {B : Nat → Int32 → Int64} {m u x y : Int32} (m0 : ¬ m < 0) (m6 : m < 6) (hu : u = 0 ∨ u = 1) (s : Sg x y A) : en_occupySlot F G A B m u 1 = some (0, ups F 1 (F 1 - 1), ups G 0 (G 0 + 1), oB A m u x y, ups B 14 (ups (B 14) m (G 0))) := by
  have u8 : ¬ u < 0 ∧ u < 8 := by rcases hu with rfl | rfl <;> decide
  have m32 := t6 m6
  have a0 := ix96 (r := 0) m0 m32 (by decide) (by decide)
  have a1 := ix96 (r := 1) m0 m32 (by decide) (by decide)
  have a2 := ix96 (r := 2) m0 m32 (by decide) (by decide)
  have e0 : (ups (ups (ups A 10 (ups (A 10) m (1 : Int32))) 11 (ups (A 11) m u)) 12 (ups (A 12) m (1 : Int32))) = o1 A m u := rfl
  have w : ∀ n (C : Nat → Int32 → Int32) (r : Int32), ¬ r < 0 → r < 3 → ¬ m * 3 + r < 0 → m * 3 + r < 96 → lp_occupySlot (n + 1) 24 m u r F G C B = lp_occupySlot n 24 m u (r + 1) F G (o3 C m r (C 2 r)) B := fun n C r b1 b2 b3 b4 => by
    rw [lp_occupySlot_24, if_pos b2, if_pos ⟨b1, b3, b4⟩]; rfl
  rw [een_occupySlot, if_pos ⟨m0, m32⟩, e0, show (1000 : Nat) = 996 + 1 + 1 + 1 + 1 from rfl, w _ _ 0 (by decide) (by decide) a0.1 a0.2, show (0 : Int32) + 1 = 1 from by decide, w _ _ 1 (by decide) (by decide) a1.1 a1.2, show (1 : Int32) + 1 = 2 from by decide, w _ _ 2 (by decide) (by decide) a2.1 a2.2, show (2 : Int32) + 1 = 3 from by decide]
  simp only [o3_j _ _ _ _ 2 (by decide), o1_j _ _ _ 2 (by decide) (by decide) (by decide)]
  rw [s.1, s.2.1, s.2.2]
  have eA : o3 (o3 (o3 (o1 A m u) m 0 x) m 1 y) m 2 0 = oA A m u x y := rfl
  rw [eA, lp_occupySlot_24, if_neg (by decide), if_pos ⟨m0, m32, u8.1, u8.2⟩, oB, oA_j _ _ _ _ _ 7 (by decide)]
  by_cases k : A 7 u < 0
  · rw [if_pos k, if_pos u8, if_pos k]
  · rw [if_neg k, if_neg k]
theorem oB_j (A : Nat → Int32 → Int32) (m u x y : Int32) (j : Nat) (h : ¬ j = 6) (h' : ¬ j = 7) : oB A m u x y j = oA A m u x y j := by
  unfold oB; split
  · rw [ups_ne _ _ h', ups_ne _ _ h]
  · rw [ups_ne _ _ h]
theorem oB_6 (A : Nat → Int32 → Int32) (m u x y : Int32) : oB A m u x y 6 = ups (A 6) u (A 6 u + 1) := by
  unfold oB; split
  · rw [ups_ne _ _ (by decide), ups_at, oA_j _ _ _ _ _ 6 (by decide)]
  · rw [ups_at, oA_j _ _ _ _ _ 6 (by decide)]
theorem oB_7 (A : Nat → Int32 → Int32) (m u x y : Int32) : oB A m u x y 7 = if A 7 u < 0 then ups (A 7) u m else A 7 := by
  unfold oB
  by_cases k : A 7 u < 0
  · rw [if_pos k, if_pos k, ups_at, oA_j _ _ _ _ _ 7 (by decide)]
  · rw [if_neg k, if_neg k, ups_ne _ _ (by decide), oA_j _ _ _ _ _ 7 (by decide)]
theorem ij {t m r s : Int32} (t0 : ¬ t < 0) (h : t < m) (m6 : m < 6) (r0 : ¬ r < 0) (r1 : r < 3) (s0 : ¬ s < 0) (s1 : s < 3) : ¬ t * 3 + r = m * 3 + s := by grind
theorem ik {m r s : Int32} (h : ¬ r = s) : ¬ m * 3 + r = m * 3 + s := by grind
theorem lt1 {t m : Int32} (m6 : m < 6) (h : t < m + 1) (k : ¬ t = m) : t < m := by grind
theorem ltm {t m : Int32} (m6 : m < 6) : t < m + 1 ↔ (t < m ∨ t = m) := by grind
theorem s64 : ∀ m : Fin 6, (Int32.ofNat m.1).toInt64 + 1 = (Int32.ofNat m.1 + 1).toInt64 := by decide +kernel
theorem s64' {m : Int32} (m0 : ¬ m < 0) (m6 : m < 6) : m.toInt64 + 1 = (m + 1).toInt64 := by
  obtain ⟨k, rfl⟩ := f6 m0 m6; exact s64 k
theorem sub5 {a0 a1 b0 b1 c0 c1 m u x y : Int32} {F : Nat → Int32} {G : Nat → Int64} {A : Nat → Int32 → Int32} {B : Nat → Int32 → Int64} (p : Pm a0 a1 b0 b1 c0 c1 m F G A B) (m0 : ¬ m < 0) (m6 : m < 6) (eu : u = (if m < 3 then 0 else 1)) (s : Sg x y A) (ex : x = (if m < 3 then a0 else b0)) (ey : y = (if m < 3 then a1 else b1)) (hx : A4 x) (hy : A4 y) (d0 : C16 c0) (d1 : C16 c1) :
    ∃ F' G' A' B', en_submit F G A B u 1 = some (m, F', G', A', B') ∧ Pm a0 a1 b0 b1 c0 c1 (m + 1) F' G' A' B' ∧ A' 2 = A 2 := by
  obtain ⟨ff, g0, zc, pu, pz, sm, sl⟩ := p
  have hu : u = 0 ∨ u = 1 := by rw [eu]; split; exact Or.inl rfl; exact Or.inr rfl
  have e1 := e_nf s zc hx hy d0 d1
  have e2 : en_lowestFreeSlot F A = some m := by
    rw [een_lowestFreeSlot, ff.2.2, if_pos (by clear sm sl; grind)]; exact l_lf m6 m0 sl 1000 0 (by decide) m0 (by decide)
  have e3 := e_oc (F := F) (G := G) (B := B) m0 m6 hu s
  have f0 : ups F 1 (F 1 - 1) 0 = 2 := by rw [ups_ne _ _ (by decide)]; exact ff.1
  have f2 : ups F 1 (F 1 - 1) 2 = -1 := by rw [ups_ne _ _ (by decide)]; exact ff.2.1
  have q12 : oB A m u x y 12 = ups (A 12) m 1 := by rw [oB_j _ _ _ _ _ 12 (by decide) (by decide), (oA_10 _ _ _ _ _).2.2]
  have P' : Pm a0 a1 b0 b1 c0 c1 (m + 1) (ups F 1 (F 1 - 1)) (ups G 0 (G 0 + 1)) (oB A m u x y) (ups B 14 (ups (B 14) m (G 0))) := by
    refine ⟨⟨f0, f2, ?_⟩, ?_, ?_, ?_, ?_, ?_, ?_⟩
    · rw [ups_at, ff.2.2]; clear sm sl; grind
    · rw [ups_at, g0, s64' m0 m6]
    · simp only [Zc, oB_j _ _ _ _ _ 0 (by decide) (by decide), oB_j _ _ _ _ _ 3 (by decide) (by decide), oB_j _ _ _ _ _ 4 (by decide) (by decide), oA_j _ _ _ _ _ 0 (by decide), oA_j _ _ _ _ _ 3 (by decide), oA_j _ _ _ _ _ 4 (by decide)]; exact zc
    · simp only [Pu, oB_j _ _ _ _ _ 5 (by decide) (by decide), oB_j _ _ _ _ _ 8 (by decide) (by decide), oA_j _ _ _ _ _ 5 (by decide), oA_j _ _ _ _ _ 8 (by decide), oB_6, oB_7]
      obtain ⟨x1, x2, x3, x4, x5, x6, x7, x8⟩ := pu
      clear sm sl e1 e2 e3
      have mm : m = 0 ∨ m = 1 ∨ m = 2 ∨ m = 3 ∨ m = 4 ∨ m = 5 := by grind
      rcases mm with rfl | rfl | rfl | rfl | rfl | rfl
      all_goals (first | (have ez : u = 0 := eu.trans (by decide); rw [ez]) | (have ez : u = 1 := eu.trans (by decide); rw [ez]))
      all_goals simp [ups, x1, x2, x3, x4, x5, x6, x7, x8]
    · simp only [Pz, oB_j _ _ _ _ _ 1 (by decide) (by decide), oB_j _ _ _ _ _ 9 (by decide) (by decide), oA_j _ _ _ _ _ 1 (by decide), oA_j _ _ _ _ _ 9 (by decide)]; exact pz
    · intro t t0 t1
      rw [oB_j _ _ _ _ _ 11 (by decide) (by decide), oB_j _ _ _ _ _ 12 (by decide) (by decide), oB_j _ _ _ _ _ 13 (by decide) (by decide), (oA_10 _ _ _ _ _).2.1, (oA_10 _ _ _ _ _).2.2, oA_13]
      by_cases e : t = m
      · subst e
        refine ⟨?_, ups_at _ _ _, ?_, ?_, ups_at _ _ _, ?_⟩
        · rw [ups_at]; exact eu
        · rw [ups_ne _ _ (ik (by decide)), ups_ne _ _ (ik (by decide)), ups_at, ex]
        · rw [ups_ne _ _ (ik (by decide)), ups_at, ey]
        · rw [ups_at, ups_at]; exact g0
      · have lt := lt1 m6 t1 e
        have z := sm t t0 lt
        rw [ups_ne _ _ e, ups_ne _ _ e, ups_at, ups_ne _ _ e]
        refine ⟨z.1, z.2.1, ?_, ?_, ?_, z.2.2.2.2.2⟩
        · rw [ups_ne _ _ (ij t0 lt m6 (by decide) (by decide) (by decide) (by decide)), ups_ne _ _ (ij t0 lt m6 (by decide) (by decide) (by decide) (by decide)), ups_ne _ _ (ij t0 lt m6 (by decide) (by decide) (by decide) (by decide))]; exact z.2.2.1
        · rw [ups_ne _ _ (ij t0 lt m6 (by decide) (by decide) (by decide) (by decide)), ups_ne _ _ (ij t0 lt m6 (by decide) (by decide) (by decide) (by decide)), ups_ne _ _ (ij t0 lt m6 (by decide) (by decide) (by decide) (by decide))]; exact z.2.2.2.1
        · rw [ups_ne _ _ (ij t0 lt m6 (by decide) (by decide) (by decide) (by decide)), ups_ne _ _ (ij t0 lt m6 (by decide) (by decide) (by decide) (by decide)), ups_ne _ _ (ij t0 lt m6 (by decide) (by decide) (by decide) (by decide))]; exact z.2.2.2.2.1
    · intro t t0 t1
      rw [oB_j _ _ _ _ _ 10 (by decide) (by decide), (oA_10 _ _ _ _ _).1]
      by_cases e : t = m
      · rw [e, ups_at, if_pos (by rw [ltm m6]; exact Or.inr rfl)]
      · rw [ups_ne _ _ e, sl t t0 t1]; simp only [ltm m6, e, or_false]
  have D : D2 (oB A m u x y) := ⟨Or.inl P'.2.2.2.1.2.2.2.2.2.2.1, Or.inl P'.2.2.2.1.2.2.2.2.2.2.2⟩
  have H : Hd (oB A m u x y) := by
    obtain ⟨_, _, _, ⟨_, _, _, _, y5, y6, _, _⟩, _, sm', _⟩ := P'
    intro v hv
    rcases hv with rfl | rfl
    · rw [y5]; split
      · exact Or.inl rfl
      · exact Or.inr ⟨by decide, by decide, (sm' 0 (by decide) (by clear sm sm' sl; grind)).2.1⟩
    · rw [y6]; split
      · exact Or.inl rfl
      · rename_i w; exact Or.inr ⟨by decide, by decide, (sm' 3 (by decide) (by clear sm sm' sl; grind)).2.1⟩
  have rl := e_rule (F := ups F 1 (F 1 - 1)) f0 f2 D H
  refine ⟨_, _, _, _, ?_, P', ?_⟩
  · have sz : f_stagedIsZero A = 0 := by rw [e_stagedIsZero, s.1, if_neg (A4z hx)]; decide
    rw [een_submit, if_neg (isU ff.1 hu), if_neg (by decide), if_pos sz, r_of (eR_stagedNeverFits A 1) e1, e1, ifS, if_pos rfl, r_of (eR_lowestFreeSlot F A) e2, e2, ifS, if_neg m0, r_of (eR_occupySlot F G A B m u 1) e3, e3]
    dsimp only
    rw [r_of (eR_runReservationRule _ _) rl, rl, if_pos ⟨rfl, rfl⟩]
  · rw [oB_j _ _ _ _ _ 2 (by decide) (by decide), oA_j _ _ _ _ _ 2 (by decide)]
theorem itS_rel {σ : Type} (f : σ → Int32 → σ) (R : σ → σ → Prop) (h : ∀ s s' i, R s s' → R (f s i) (f s' i)) : ∀ (n : Nat) (i : Int32) (s s' : σ), R s s' → R (itS f n i s) (itS f n i s') := by
  intro n
  induction n with
  | zero => exact fun i s s' hs => hs
  | succ n ih => exact fun i s s' hs => ih (i + 1) _ _ (h s s' i hs)
def QN (s s' : Nat → Int32 → Int32) : Prop := ∀ j : Nat, ¬ j = 0 → s j = s' j
theorem q_ups {s s' : Nat → Int32 → Int32} (h : QN s s') (k : Nat) {f f' : Int32 → Int32} (e : f = f') : QN (ups s k f) (ups s' k f') := by
  intro j hj
  subst e
  by_cases q : j = k
  · subst q; rw [ups_at, ups_at]
  · rw [ups_ne _ _ q, ups_ne _ _ q]; exact h j hj
theorem q_u {s s' : Nat → Int32 → Int32} (h : QN s s') (k : Nat) (hk : ¬ k = 0) (x v : Int32) : QN (ups s k (ups (s k) x v)) (ups s' k (ups (s' k) x v)) := q_ups h k (by rw [h k hk])
theorem q_rs (s s' : Nat → Int32 → Int32) (i : Int32) (h : QN s s') : QN (A_resetUser s i) (A_resetUser s' i) := by
  rw [eA_resetUser, eA_resetUser]
  unfold w_rs
  refine q_u (q_u (q_u (q_ups (q_ups (q_ups (q_ups (q_ups (q_ups h 3 ?_) 4 ?_) 5 ?_) 6 ?_) 7 ?_) 8 ?_) 9 (by decide) _ _) 9 (by decide) _ _) 9 (by decide) _ _
  · rw [h 3 (by decide)]
  · rw [h 4 (by decide)]
  · rw [h 5 (by decide)]
  · rw [h 6 (by decide)]
  · rw [h 7 (by decide)]
  · rw [h 8 (by decide)]
theorem q_cs (s s' : Nat → Int32 → Int32) (i : Int32) (h : QN s s') : QN (A_clearSlotFields s i) (A_clearSlotFields s' i) := by
  rw [eA_clearSlotFields, eA_clearSlotFields]
  unfold w_sd
  refine q_u (q_u (q_u (q_ups (q_ups (q_ups h 10 ?_) 11 ?_) 12 ?_) 13 (by decide) _ _) 13 (by decide) _ _) 13 (by decide) _ _
  · rw [h 10 (by decide)]
  · rw [h 11 (by decide)]
  · rw [h 12 (by decide)]
theorem q_us (s s' : Nat → Int32 → Int32) (i : Int32) (h : QN s s') : QN (w_us s i) (w_us s' i) := by
  unfold w_us
  exact q_ups (q_ups h 1 (by rw [h 1 (by decide)])) 2 (by rw [h 2 (by decide)])
theorem q_in (p1 p2 p3 q1 q2 q3 : Int32) : QN (A_in0 p1 p2 p3) (A_in0 q1 q2 q3) := by
  intro j hj
  rw [eA_in0, eA_in0, ups_ne _ _ hj, ups_ne _ _ hj, ups_ne _ _ hj, ups_ne _ _ hj, ups_ne _ _ hj, ups_ne _ _ hj]
theorem q_init (p1 p2 p3 p4 q1 q2 q3 q4 : Int32) : QN (A_init p1 p2 p3 p4) (A_init q1 q2 q3 q4) := by
  have r := itS_rel A_resetUser QN q_rs 8 0 _ _ (q_in p1 p2 p3 q1 q2 q3)
  unfold A_init AB_init
  generalize itS A_resetUser 8 0 (A_in0 p1 p2 p3) = X at *
  generalize itS A_resetUser 8 0 (A_in0 q1 q2 q3) = Y at *
  have r2 := itS_rel f_csf (fun s s' => QN s.1 s'.1) (fun s s' i h => q_cs s.1 s'.1 i h) 32 0 (X, fun _ _ => 0) (Y, fun _ _ => 0) r
  generalize itS f_csf 32 0 (X, fun _ _ => 0) = X2 at *
  generalize itS f_csf 32 0 (Y, fun _ _ => 0) = Y2 at *
  exact itS_rel w_us QN q_us 3 0 _ _ r2
theorem z_init (p1 p2 p3 p4 : Int32) : A_init p1 p2 p3 p4 0 = A_in0 p1 p2 p3 0 := by
  have r : itS A_resetUser 8 0 (A_in0 p1 p2 p3) 0 = A_in0 p1 p2 p3 0 := itS_inv A_resetUser (fun s => s 0 = A_in0 p1 p2 p3 0) (fun s i h => by
    show A_resetUser s i 0 = _
    rw [eA_resetUser]; unfold w_rs
    rw [ups_ne _ _ (by decide), ups_ne _ _ (by decide), ups_ne _ _ (by decide), ups_ne _ _ (by decide), ups_ne _ _ (by decide), ups_ne _ _ (by decide), ups_ne _ _ (by decide), ups_ne _ _ (by decide), ups_ne _ _ (by decide)]; exact h) 8 0 _ rfl
  unfold A_init AB_init
  generalize itS A_resetUser 8 0 (A_in0 p1 p2 p3) = X at *
  generalize A_in0 p1 p2 p3 0 = c at *
  have r2 : (itS f_csf 32 0 (X, fun _ _ => 0)).1 0 = c := itS_inv f_csf (fun s => s.1 0 = c) (fun s i h => by
    show A_clearSlotFields s.1 i 0 = _
    rw [eA_clearSlotFields]; unfold w_sd
    rw [ups_ne _ _ (by decide), ups_ne _ _ (by decide), ups_ne _ _ (by decide), ups_ne _ _ (by decide), ups_ne _ _ (by decide), ups_ne _ _ (by decide)]; exact h) 32 0 (X, fun _ _ => 0) r
  generalize itS f_csf 32 0 (X, fun _ _ => 0) = X2 at *
  exact itS_inv w_us (fun s => s 0 = c) (fun s i h => by
    show w_us s i 0 = _
    unfold w_us; rw [ups_ne _ _ (by decide), ups_ne _ _ (by decide)]; exact h) 3 0 _ r2
theorem c_slot : ∀ k : Fin 32, A_init 4 4 1 2 10 (Int32.ofNat k.1) = 0 := by decide +kernel
theorem c_user : A_init 4 4 1 2 3 0 = 1 ∧ A_init 4 4 1 2 3 1 = 1 ∧ A_init 4 4 1 2 4 0 = 32 ∧ A_init 4 4 1 2 4 1 = 32 ∧ A_init 4 4 1 2 5 0 = 0 ∧ A_init 4 4 1 2 5 1 = 0 ∧ A_init 4 4 1 2 6 0 = 0 ∧ A_init 4 4 1 2 6 1 = 0 ∧ A_init 4 4 1 2 7 0 = -1 ∧ A_init 4 4 1 2 7 1 = -1 ∧ A_init 4 4 1 2 8 0 = 0 ∧ A_init 4 4 1 2 8 1 = 0 ∧ A_init 4 4 1 2 1 0 = 0 ∧ A_init 4 4 1 2 1 1 = 0 ∧ A_init 4 4 1 2 9 0 = 0 ∧ A_init 4 4 1 2 9 1 = 0 ∧ A_init 4 4 1 2 9 2 = 0 ∧ A_init 4 4 1 2 9 3 = 0 ∧ A_init 4 4 1 2 9 4 = 0 ∧ A_init 4 4 1 2 9 5 = 0 := by decide +kernel
theorem i32 {t : Int32} (a : ¬ t < 0) (b : t < 32) : ∃ k : Fin 32, t = Int32.ofNat k.1 := by
  have z : (0 : Int32).toInt = 0 := by decide
  have y : (32 : Int32).toInt = 32 := by decide
  rw [lt_i] at a b
  refine ⟨⟨t.toInt.toNat, by omega⟩, Int32.toInt_inj.mp ?_⟩
  show t.toInt = (Int32.ofNat t.toInt.toNat).toInt
  rw [toN _ (by omega)]; omega
theorem ccl : ∀ c : Fin 16, f_clampInt (4 + Int32.ofNat c.1) 1 1000000 = 4 + Int32.ofNat c.1 := by decide
theorem p0 {a0 a1 b0 b1 c0 c1 : Int32} (d0 : C16 c0) (d1 : C16 c1) : Pm a0 a1 b0 b1 c0 c1 0 (F_init c0 c1 1 2) (G_init c0 c1 1 2) (A_init c0 c1 1 2) (B_init c0 c1 1 2) := by
  have q := q_init c0 c1 1 2 4 4 1 2
  obtain ⟨h1, h2, h3, h4, h5, h6, h7, h8, h9, h10, h11, h12, h13, h14, h15, h16, h17, h18, h19, h20⟩ := c_user
  have e0 : A_init c0 c1 1 2 0 0 = c0 ∧ A_init c0 c1 1 2 0 1 = c1 ∧ A_init c0 c1 1 2 0 2 = 1 := by
    rw [z_init, eA_in0]
    obtain ⟨c0, rfl⟩ := d0; obtain ⟨c1, rfl⟩ := d1
    rw [ccl, ccl]
    refine ⟨?_, ?_, ?_⟩
    · simp [ups]
    · simp [ups]
    · simp [ups]; decide
  refine ⟨⟨?_, ?_, ?_⟩, ?_, ⟨e0.1, e0.2.1, e0.2.2, ?_, ?_, ?_, ?_⟩, ⟨?_, ?_, ?_, ?_, ?_, ?_, ?_, ?_⟩, ⟨?_, ?_, ?_, ?_, ?_, ?_, ?_, ?_⟩, fun t a b => absurd b a, fun t a b => ?_⟩
  · rw [eF_init]; simp [ups, e_clampInt]
  · rw [eF_init]; simp [ups]
  · rw [eF_init]; simp [ups]
  · show ups (fun _ => 0) 0 (0 : Int64) 0 = _
    rw [ups_at]; decide
  · rw [q 3 (by decide)]; exact h1
  · rw [q 3 (by decide)]; exact h2
  · rw [q 4 (by decide)]; exact h3
  · rw [q 4 (by decide)]; exact h4
  · rw [q 5 (by decide)]; exact h5
  · rw [q 5 (by decide)]; exact h6
  · rw [q 6 (by decide), h7]; decide
  · rw [q 6 (by decide), h8]; decide
  · rw [q 7 (by decide), h9]; decide
  · rw [q 7 (by decide), h10]; decide
  · rw [q 8 (by decide)]; exact h11
  · rw [q 8 (by decide)]; exact h12
  · rw [q 1 (by decide)]; exact h13
  · rw [q 1 (by decide)]; exact h14
  · rw [q 9 (by decide)]; exact h15
  · rw [q 9 (by decide)]; exact h16
  · rw [q 9 (by decide)]; exact h17
  · rw [q 9 (by decide)]; exact h18
  · rw [q 9 (by decide)]; exact h19
  · rw [q 9 (by decide)]; exact h20
  · rw [q 10 (by decide), if_neg a]
    obtain ⟨k, rfl⟩ := i32 a b; exact c_slot k
theorem isD {x : Int32} (h : A4 x) : ¬ f_isDemandValue x = 0 := by
  obtain ⟨k, rfl⟩ := h; revert k; decide
theorem sg5 {x y : Int32} (hx : A4 x) (hy : A4 y) (A : Nat → Int32 → Int32) : ¬ f_stage x y 0 = 0 ∧ Sg x y (A_stage A x y 0) ∧ ∀ j : Nat, ¬ j = 2 → A_stage A x y 0 j = A j := by
  have z : ¬ f_isDemandValue 0 = 0 := by decide
  refine ⟨?_, ?_, ?_⟩
  · rw [e_stage, if_neg (isD hx), if_neg (isD hy), if_neg z]; decide
  · rw [eA_stage, if_neg (isD hx), if_neg (isD hy), if_neg z]; simp [Sg, ups]
  · intro j hj; rw [eA_stage, if_neg (isD hx), if_neg (isD hy), if_neg z, ups_ne _ _ hj, ups_ne _ _ hj, ups_ne _ _ hj]
theorem pm_st {a0 a1 b0 b1 c0 c1 m : Int32} {F : Nat → Int32} {G : Nat → Int64} {A C : Nat → Int32 → Int32} {B : Nat → Int32 → Int64} (p : Pm a0 a1 b0 b1 c0 c1 m F G A B) (h : ∀ j : Nat, ¬ j = 2 → C j = A j) : Pm a0 a1 b0 b1 c0 c1 m F G C B := by
  simp only [Pm, Zc, Pu, Pz, Sm]
  rw [h 0 (by decide), h 1 (by decide), h 3 (by decide), h 4 (by decide), h 5 (by decide), h 6 (by decide), h 7 (by decide), h 8 (by decide), h 9 (by decide), h 10 (by decide), h 11 (by decide), h 12 (by decide), h 13 (by decide)]; exact p
theorem dmz (a b c d : Int32) : dmn (0 * a) (0 * b) c d = 0 := by
  rw [Int32.zero_mul, Int32.zero_mul]; unfold dmn
  have z : (0 : Int32).toInt64 = 0 := by decide
  rw [z, Int64.zero_mul, Int64.zero_mul, if_neg (by decide)]
theorem z6 {a0 a1 b0 b1 c0 c1 : Int32} {F : Nat → Int32} {G : Nat → Int64} {A : Nat → Int32 → Int32} {B : Nat → Int32 → Int64} (p : Pm a0 a1 b0 b1 c0 c1 6 F G A B) : Z a0 a1 b0 b1 c0 c1 0 0 0 0 F A B := by
  obtain ⟨ff, g0, zc, pu, pz, sm, sl⟩ := p
  obtain ⟨x1, x2, x3, x4, x5, x6, x7, x8⟩ := pu
  obtain ⟨y1, y2, y3, y4, y5, y6, y7, y8⟩ := pz
  refine ⟨⟨ff.1, ff.2.1⟩, zc, ⟨y1, y2⟩, ⟨x1, ?_, ?_, ?_, ?_, y5, ?_⟩, ⟨x2, ?_, ?_, ?_, ?_, y8, ?_⟩, sm, fun t a b => ?_⟩
  · rw [x3]; decide
  · rw [x5]; decide
  · rw [y3, Int32.zero_mul]
  · rw [y4, Int32.zero_mul]
  · rw [x7, dmz]
  · rw [x4]; decide
  · rw [x6]; decide
  · rw [y6, Int32.zero_mul]
  · rw [y7, Int32.zero_mul]
  · rw [x8, dmz]
  · rw [sl t a b]; unfold stt; clear sm sl; grind
section
variable {a0 a1 b0 b1 c0 c1 : Int32} {B : Nat → Int32 → Int64}
theorem loop5 (x0 : A4 a0) (x1 : A4 a1) (y0 : A4 b0) (y1 : A4 b1) (d0 : C16 c0) (d1 : C16 c1) : ∀ (n : Nat) (i g0 g1 u0 u1 : Int32) (F : Nat → Int32) (G : Nat → Int64) (A : Nat → Int32 → Int32), Z a0 a1 b0 b1 c0 c1 g0 g1 u0 u1 F A B → G4 g0 → G4 g1 → ¬ i < 0 → ¬ 8 < i → (8 : Int32).toInt < i.toInt + (n : Int) → lp_L_law (5 * n + 1) 183 c0 c1 a0 a1 b0 b1 g0 g1 u0 u1 i 0 0 0 0 F G A B = some 1 := by
  intro n
  induction n with
  | zero => exact fun i g0 g1 u0 u1 F G A _ _ _ _ h1 h2 => (fu_z h1 h2).elim
  | succ n ih =>
    intro i g0 g1 u0 u1 F G A z q0 q1 h0 h1 h2
    rw [show 5 * (n + 1) + 1 = 5 * n + 1 + 1 + 1 + 1 + 1 + 1 from by omega, lp_L_law_183]
    by_cases q : i < 8
    · have i0 : ¬ i + 1 < 0 := by clear ih z; grind
      have i1 : ¬ 8 < i + 1 := by clear ih z; grind
      have fu := fu_nxt q h2
      have m1 : ¬ (-1 : Int32) = 0 := by decide
      have m2 : ¬ (-1 : Int32) = 1 := by decide
      have o1 : ¬ (1 : Int32) = 0 := by decide
      have go : lp_L_law (5 * n + 1 + 1 + 1) 352 c0 c1 a0 a1 b0 b1 g0 g1 u0 u1 i 0 0 (W a0 a1 b0 b1 c0 c1 g0 g1 u0 u1) 0 F G A B = some 1 := by
        rw [lp_L_law_352]
        rcases stp z q0 q1 x0 x1 y0 y1 d0 d1 with ⟨e, s⟩ | ⟨e, k, A', s, z'⟩ | ⟨e, k, A', s, z'⟩
        · rw [e, r_of (eR_step F A B) s, s, ifS]
          dsimp only
          rw [lp_L_law_359, if_neg m1, if_neg m2, if_pos rfl]
          exact ih (i + 1) g0 g1 u0 u1 F G A z q0 q1 i0 i1 fu
        · rw [e, r_of (eR_step F A B) s, s, ifS]
          dsimp only
          rw [lp_L_law_359, if_pos rfl, if_pos rfl]
          exact ih (i + 1) (g0 + 1) g1 _ _ F G A' z' (G4n q0 k) q1 i0 i1 fu
        · rw [e, r_of (eR_step F A B) s, s, ifS]
          dsimp only
          rw [lp_L_law_359, if_neg o1, if_pos rfl, if_pos rfl]
          exact ih (i + 1) g0 (g1 + 1) _ _ F G A' z' q0 (G4n q1 k) i0 i1 fu
      rw [if_pos q, lp_L_law_223, lp_L_law_256]
      have w0 : (if g0 < (3 : Int32) then (if (c0 - u0) < a0 then (0 : Int32) else (if (c1 - u1) < a1 then (0 : Int32) else (1 : Int32))) else (0 : Int32)) = fit g0 (c0 - u0) a0 (c1 - u1) a1 := rfl
      have w1 : (if g1 < (3 : Int32) then (if (c0 - u0) < b0 then (0 : Int32) else (if (c1 - u1) < b1 then (0 : Int32) else (1 : Int32))) else (0 : Int32)) = fit g1 (c0 - u0) b0 (c1 - u1) b1 := rfl
      rw [w0, w1]
      by_cases k0 : fit g0 (c0 - u0) a0 (c1 - u1) a1 = 0
      · rw [if_pos k0, if_pos k0]
        by_cases k1 : fit g1 (c0 - u0) b0 (c1 - u1) b1 = 0
        · have e : W a0 a1 b0 b1 c0 c1 g0 g1 u0 u1 = -1 := by unfold W; rw [if_pos k0, if_pos k1]
          rw [e] at go; rw [if_pos k1]; exact go
        · have e : W a0 a1 b0 b1 c0 c1 g0 g1 u0 u1 = 1 := by unfold W; rw [if_pos k0, if_neg k1]
          rw [e] at go; rw [if_neg k1]; exact go
      · rw [if_neg k0]
        by_cases k1 : fit g1 (c0 - u0) b0 (c1 - u1) b1 = 0
        · have e : W a0 a1 b0 b1 c0 c1 g0 g1 u0 u1 = 0 := by unfold W; rw [if_neg k0, if_pos k1]
          rw [e] at go; rw [if_pos k1, if_neg k0]; exact go
        · have e : W a0 a1 b0 b1 c0 c1 g0 g1 u0 u1 = (if 0 < XT.cmpL (DA a0 a1 c0 c1 g0) (DA b0 b1 c0 c1 g1) then 1 else 0) := by unfold W; rw [if_neg k0, if_neg k1]
          rw [e] at go; rw [if_neg k1]; exact go
    · rw [if_neg q]
      have f0 := z.1.1
      have r0 : ¬ f_isResource 0 = 0 := by decide
      have r1 : ¬ f_isResource 1 = 0 := by decide
      have us : ∀ r : Int32, ¬ f_isResource r = 0 → ¬ r < 0 → r < 3 → en_used A r = some (A 1 r) := fun r a b c => by rw [een_used, if_neg a, if_pos ⟨b, c⟩]
      have ual : ∀ u r : Int32, (u = 0 ∨ u = 1) → (r = 0 ∨ r = 1) → ¬ f_isResource r = 0 → en_userAlloc F A u r = some (A 9 (f_allocIndex u r)) := fun u r hu hr a => by
        have c := cb' hu hr
        rw [een_userAlloc, if_neg (isU f0 hu), if_neg a, if_pos ⟨c.1, c.2.1⟩]
      have us0 := us 0 r0 (by decide) (by decide)
      have us1 := us 1 r1 (by decide) (by decide)
      have w00 := ual 0 0 (Or.inl rfl) (Or.inl rfl) r0
      have w01 := ual 0 1 (Or.inl rfl) (Or.inr rfl) r1
      have w10 := ual 1 0 (Or.inr rfl) (Or.inl rfl) r0
      have w11 := ual 1 1 (Or.inr rfl) (Or.inr rfl) r1
      obtain ⟨j0, j1, j2, j3, j4, j5⟩ := ai00
      have cs : en_compareShares F A 0 1 = some (cv A 0 1) := by
        have c := e_cmp (zD z) 0 1 (Or.inl rfl) (Or.inr rfl)
        rw [een_compareShares, if_neg (isU f0 (Or.inl rfl)), if_neg (isU f0 (Or.inr rfl)), r_of (eR_compareUsers A 0 1) c, c, ifS]
      rw [j0, z.2.2.2.1.2.2.2.1] at w00
      rw [j1, z.2.2.2.1.2.2.2.2.1] at w01
      rw [j3, z.2.2.2.2.1.2.2.2.1] at w10
      rw [j4, z.2.2.2.2.1.2.2.2.2.1] at w11
      rw [z.2.2.1.1] at us0
      rw [z.2.2.1.2] at us1
      rw [cv01 z q0 q1 x0 x1 y0 y1 d0 d1] at cs
      rw [r_of (eR_used A 0) us0, us0, ifS, if_pos rfl, r_of (eR_used A 1) us1, us1, ifS, if_pos rfl, r_of (eR_userAlloc F A 0 0) w00, w00, ifS, if_pos rfl, r_of (eR_userAlloc F A 0 1) w01, w01, ifS, if_pos rfl, r_of (eR_userAlloc F A 1 0) w10, w10, ifS, if_pos rfl, r_of (eR_userAlloc F A 1 1) w11, w11, ifS, if_pos rfl, r_of (eR_compareShares F A 0 1) cs, cs, ifS, if_pos rfl, n1]
end
theorem law5' {a0 a1 b0 b1 c0 c1 : Int32} (x0 : A4 a0) (x1 : A4 a1) (y0 : A4 b0) (y1 : A4 b1) (d0 : C16 c0) (d1 : C16 c1) {F : Nat → Int32} {G : Nat → Int64} {A : Nat → Int32 → Int32} {B : Nat → Int32 → Int64} (p : Pm a0 a1 b0 b1 c0 c1 0 F G A B) : lp_L_law 1000 61 c0 c1 a0 a1 b0 b1 0 0 0 0 0 0 0 0 0 F G A B = some 1 := by
  have s1 := sg5 x0 x1 A
  rw [lp_L_law_61, if_neg s1.1]
  have p0' := pm_st p s1.2.2
  have g1' := s1.2.1
  generalize A_stage A a0 a1 0 = A1 at *
  obtain ⟨F2, G2, A2, B2, e2, p2, k2⟩ := sub5 (u := 0) p0' (by decide) (by decide) (by decide) g1' (by rw [if_pos (by decide)]) (by rw [if_pos (by decide)]) x0 x1 d0 d1
  rw [lp_L_law_76, r_of (eR_submit _ _ _ _ _ _) e2, e2, ifS, if_pos rfl]
  dsimp only
  rw [show (0 : Int32) + 1 = 1 from by decide] at p2
  have g2' : Sg a0 a1 A2 := by simp only [Sg]; rw [k2]; exact g1'
  obtain ⟨F3, G3, A3, B3, e3, p3, k3⟩ := sub5 (u := 0) p2 (by decide) (by decide) (by decide) g2' (by rw [if_pos (by decide)]) (by rw [if_pos (by decide)]) x0 x1 d0 d1
  rw [lp_L_law_88, r_of (eR_submit _ _ _ _ _ _) e3, e3, ifS, if_pos rfl]
  dsimp only
  rw [show (1 : Int32) + 1 = 2 from by decide] at p3
  have g3' : Sg a0 a1 A3 := by simp only [Sg]; rw [k3]; exact g2'
  obtain ⟨F4, G4', A4', B4, e4, p4, k4⟩ := sub5 (u := 0) p3 (by decide) (by decide) (by decide) g3' (by rw [if_pos (by decide)]) (by rw [if_pos (by decide)]) x0 x1 d0 d1
  rw [lp_L_law_101, r_of (eR_submit _ _ _ _ _ _) e4, e4, ifS, if_pos rfl]
  dsimp only
  rw [show (2 : Int32) + 1 = 3 from by decide] at p4
  have s2 := sg5 y0 y1 A4'
  rw [lp_L_law_114, if_neg s2.1]
  have p4' := pm_st p4 s2.2.2
  have g4' := s2.2.1
  generalize A_stage A4' b0 b1 0 = A5 at *
  obtain ⟨F6, G6, A6, B6, e6, p6, k6⟩ := sub5 (u := 1) p4' (by decide) (by decide) (by decide) g4' (by rw [if_neg (by decide)]) (by rw [if_neg (by decide)]) y0 y1 d0 d1
  rw [lp_L_law_129, r_of (eR_submit _ _ _ _ _ _) e6, e6, ifS, if_pos rfl]
  dsimp only
  rw [show (3 : Int32) + 1 = 4 from by decide] at p6
  have g6' : Sg b0 b1 A6 := by simp only [Sg]; rw [k6]; exact g4'
  obtain ⟨F7, G7, A7, B7, e7, p7, k7⟩ := sub5 (u := 1) p6 (by decide) (by decide) (by decide) g6' (by rw [if_neg (by decide)]) (by rw [if_neg (by decide)]) y0 y1 d0 d1
  rw [lp_L_law_142, r_of (eR_submit _ _ _ _ _ _) e7, e7, ifS, if_pos rfl]
  dsimp only
  rw [show (4 : Int32) + 1 = 5 from by decide] at p7
  have g7' : Sg b0 b1 A7 := by simp only [Sg]; rw [k7]; exact g6'
  obtain ⟨F8, G8, A8, B8, e8, p8, k8⟩ := sub5 (u := 1) p7 (by decide) (by decide) (by decide) g7' (by rw [if_neg (by decide)]) (by rw [if_neg (by decide)]) y0 y1 d0 d1
  rw [lp_L_law_155, r_of (eR_submit _ _ _ _ _ _) e8, e8, ifS, if_pos rfl]
  dsimp only
  rw [show (5 : Int32) + 1 = 6 from by decide] at p8
  rw [lp_L_law_168]
  rw [show (991 : Nat) = 5 * 198 + 1 from rfl]
  exact loop5 x0 x1 y0 y1 d0 d1 198 0 0 0 0 0 F8 G8 A8 (z6 p8) (Or.inl rfl) (Or.inl rfl) (by decide) (by decide) (by decide)
theorem a4m (p : Int32) : A4 (1 + (p &&& 3)) := by
  obtain ⟨s, hs⟩ := mask_fin p 3 2 (by decide) (by decide); rw [hs]; exact ⟨s, rfl⟩
theorem c4m (p : Int32) : C16 (4 + (p &&& 15)) := by
  obtain ⟨s, hs⟩ := mask_fin p 15 4 (by decide) (by decide); rw [hs]; exact ⟨s, rfl⟩
theorem law5 (p1 p2 p3 p4 p5 p6 : Int32) : en_L_law p1 p2 p3 p4 p5 p6 = some 1 := by
  rw [een_L_law]
  have x0 := a4m p3
  have x1 := a4m p4
  have y0 := a4m p5
  have y1 := a4m p6
  have d0 := c4m p1
  have d1 := c4m p2
  generalize 1 + (p3 &&& 3) = a0 at *
  generalize 1 + (p4 &&& 3) = a1 at *
  generalize 1 + (p5 &&& 3) = b0 at *
  generalize 1 + (p6 &&& 3) = b1 at *
  generalize 4 + (p1 &&& 15) = c0 at *
  generalize 4 + (p2 &&& 15) = c1 at *
  have p := p0 (a0 := a0) (a1 := a1) (b0 := b0) (b1 := b1) d0 d1
  generalize F_init c0 c1 1 2 = F at *
  generalize G_init c0 c1 1 2 = G at *
  generalize A_init c0 c1 1 2 = A at *
  generalize B_init c0 c1 1 2 = B at *
  exact law5' x0 x1 y0 y1 d0 d1 p
theorem law_ok {l : Launch} {Z : State} {a0 : Array Value} (H : OK Z a0) (p1 p2 p3 p4 p5 p6 : Int32) : Wk l Z (MoL Z cdC "DominantShareL3" false) md_L_law 0 [.val (.int p1), .val (.int p2), .val (.int p3), .val (.int p4), .val (.int p5), .val (.int p6), .unset, .unset, .unset, .unset, .unset, .unset, .unset, .unset, .unset, .unset, .unset, .unset, .unset, .unset, .unset, .unset, .unset, .unset, .unset] [] (0, (fun _ => 0), []) 0 0 (fun v _ => v = some (.int 1)) :=
  run_law H 0 (fun _ => 0) p1 p2 p3 p4 p5 p6 (law5 p1 p2 p3 p4 p5 p6)
set_option maxRecDepth 65536 in
set_option maxHeartbeats 40000000 in
theorem comes_1 {Post : Tables → Env → Array Value → State → Outcome → State → Prop} (hpost : ∀ tb e args s v u, (limb_1_1.after args s (.returned v) u = true ∧ limb_1_2.after args s (.returned v) u = true ∧ True) → FrameEnd s (.returned v) u (Jvm.fieldLocs frame_1_writes args s ++ Jvm.arrayLocs frame_1_arrays args s ++ Jvm.staticLocs frame_1_statics s) room_1.cells room_1.slots → Post tb e args s (.returned v) u) :
    ArmFor flags0 classFile x code maxLocals ret World_1 tables_1 room_1 Calls_1 rest_1 Pre_1 Post := by
  intro l hfl _ _ p e ha hc hk s m args below hf hA hF happ hP
  obtain ⟨hcalls, hrest, hpre⟩ := hP
  obtain ⟨-, -, -, hnamed, -, -, -, hat⟩ := (Spec.applies_iff hf).mp happ
  obtain ⟨hg, hn⟩ := and_e (Cond.before_iff.mp (show (Jvm.Cond.and given_1 narrow_1).before args s = true from hpre))
  obtain ⟨h1, h2⟩ := and_e hg
  obtain ⟨w0, w1, w2, w3, w4, w5, rfl⟩ : ∃ w0 w1 w2 w3 w4 w5 : Value, args = #[w0, w1, w2, w3, w4, w5] := by
    have hs : args.size = 6 := by simpa [Cond.value, given_1] using h1
    obtain ⟨L⟩ := args
    match L, hs with
    | [w0, w1, w2, w3, w4, w5], _ => exact ⟨w0, w1, w2, w3, w4, w5, rfl⟩
  have hw : OK s #[w0, w1, w2, w3, w4, w5] := fun d (hd : d ∈ tables_1) => atoms_spec (ws := Jvm.Cond.code x code maxLocals ret :: tables_1) hat d (List.mem_cons_of_mem _ hd)
  obtain ⟨g0, r0⟩ := and_e h2
  obtain ⟨g1, r1⟩ := and_e r0
  obtain ⟨g2, r2⟩ := and_e r1
  obtain ⟨g3, r3⟩ := and_e r2
  obtain ⟨g4, r4⟩ := and_e r3
  have g5 := r4
  obtain ⟨i0, e0⟩ := is_v g0
  obtain rfl : w0 = (.int i0) := Option.some.inj e0
  obtain ⟨i1, e1⟩ := is_v g1
  obtain rfl : w1 = (.int i1) := Option.some.inj e1
  obtain ⟨i2, e2⟩ := is_v g2
  obtain rfl : w2 = (.int i2) := Option.some.inj e2
  obtain ⟨i3, e3⟩ := is_v g3
  obtain rfl : w3 = (.int i3) := Option.some.inj e3
  obtain ⟨i4, e4⟩ := is_v g4
  obtain rfl : w4 = (.int i4) := Option.some.inj e4
  obtain ⟨i5, e5⟩ := is_v g5
  obtain rfl : w5 = (.int i5) := Option.some.inj e5
  have rel0 : relL s cdC false (s.heap.size, 0) (0, (fun _ => 0), []) s.heap := ⟨fun q => (by cases q), fun i x q => (by simp at q), (by simp)⟩
  obtain ⟨n, o, h1, h2, h3, v, L, rfl, ⟨w', hv, hrel, hfrm, N, hsz, hnr⟩, hq⟩ := (law_ok hw i0 i1 i2 i3 i4 i5).met (M := MoL s cdC "DominantShareL3" false) (l := l) pn_DominantShareL3 rfl (en := (s.heap.size, 0)) rel0 [.int i0, .int i1, .int i2, .int i3, .int i4, .int i5] ((Jvm.Sym.argsToLocals_toList _ _).trans rfl) rfl tables_1 p e ha hc hk s m _ below hf ((Spec.applies_iff_loose hf).mp happ).1 ⟨rfl, State.Warmed39.refl s, rfl⟩ trivial
  subst hv
  exact ⟨n, _, h1, h2, h3, hpost _ _ _ _ _ _ ⟨Cond.after_iff.mpr rfl, Cond.after_iff.mpr (eq_i res_at (Term.int_eval (1)) rfl), trivial⟩ ⟨hq.1, hq.2.1, (hq.2.2.sift fun y hy => Or.inr (N y hy)).mono (Nat.le_refl _) (Nat.le_refl _)⟩⟩
theorem main_1_1 : Claimed_1_1 := comes_1 fun _ _ _ _ _ _ h hF => ⟨h.1, hF⟩
theorem main_1_2 : Claimed_1_2 := comes_1 fun _ _ _ _ _ _ h hF => ⟨h.2.1, hF⟩
end Jvm.Pilot.@@N@@
namespace Jvm.Pilot.@@N@@
open Jvm Jvm.ClassFile Sem Op Lib Jvm.Free Jvm.Stand Jvm.Pilot.@@N@@.Jvm.D
/-! MADE BY PROGRAM (witnessworld.py) out of the Statement's table words and the real class files: 11 classes; the members and pool entries that the words name. The judged class is class 1, her method 1. -/
namespace start1
open Jvm.ClassFile
def u (s : String) : CpInfo := .utf8 (stringToUtf16 s)
/-- a pool by its gaps: so many unusable entries, then the entry; so many at the end -/
def gap : Nat → List CpInfo → List CpInfo
  | 0, r => r
  | n + 1, r => .unusable :: gap n r
def poolList (es : List (Nat × CpInfo)) (last : Nat) : List CpInfo := es.foldr (fun e r => gap e.1 (e.2 :: r)) (gap last [])
def pool (es : List (Nat × CpInfo)) (last : Nat) : Array CpInfo := ⟨poolList es last⟩
def fileOf (pool : Array CpInfo) (this : Nat) (attrs : Array Attribute := #[]) (ms : Array MethodInfo := #[]) (fl : Nat := 33) (sup : Nat := 0) (ifs : Array Nat := #[]) (fds : Array FieldInfo := #[]) : ClassFile where
  minorVersion := 0
  majorVersion := 65
  constantPool := pool
  accessFlags := fl
  thisClass := this
  superClass := sup
  interfaces := ifs
  fields := fds
  methods := ms
  attributes := attrs
def plain (name : String) (sup : Option ClassId) : Class where
  name := name
  kind := .ordinary
  loader := none
  accessFlags := 33
  super := sup
  interfaces := #[]
  cf := none
  fields := #[]
  methods := #[]
  instanceTypes := #[]
  staticTypes := #[]
  resolved := #[]
  callSites := []
  init := .initialized
  statics := none
  mirror := none

def pool0 : Array CpInfo := pool [(5, u "<init>"), (0, u "()V"), (1, .class_ 10), (1, u "java/lang/Object")] 113

def k0c0 : Code := { maxStack := 0, maxLocals := 1, code := object_method_1_code, exceptionTable := #[], attributes := #[] }
def k0m0 : Method := { name := "<init>", desc := "()V", sig := { parameters := [], returnType := none }, accessFlags := 1, code := some k0c0 }
/-- java/lang/Object -/
def k0 : Class := { plain "java/lang/Object" none with
  accessFlags := 33
  interfaces := #[]
  cf := some (fileOf pool0 8 #[] #[{ accessFlags := 1, nameIndex := 5, descriptorIndex := 6, attributes := #[] }] 33 0 #[] #[])
  fields := #[]
  methods := #[k0m0]
  instanceTypes := #[]
  staticTypes := #[]
  resolved := Array.replicate 124 none
  statics := none }

def pool1 : Array CpInfo := pool [(2, .class_ 4), (1, u "java/lang/Object"), (0, u "<init>"), (0, u "()V"), (0, .class_ 8), (0, u "DominantShare"), (0, .methodref 7 10), (0, .nameAndType 5 11), (0, u "(IIII)V"), (0, .methodref 7 13), (0, .nameAndType 14 15), (0, u "stage"), (0, u "(III)Z"), (0, .methodref 7 17), (0, .nameAndType 18 19), (0, u "submit"), (0, u "(II)I"), (0, .methodref 21 22), (0, .class_ 23), (0, .nameAndType 24 25), (0, u "DominantShareL3"), (0, u "dom"), (0, u "(JJJJ)J"), (0, .methodref 7 27), (0, .nameAndType 28 29), (0, u "step"), (0, u "()I"), (0, .methodref 7 31), (0, .nameAndType 32 33), (0, u "used"), (0, u "(I)I"), (0, .methodref 7 35), (0, .nameAndType 36 19), (0, u "userAlloc"), (0, .methodref 7 38), (0, .nameAndType 39 19), (0, u "compareShares"), (2, u "law"), (0, u "(IIIIII)Z")] 3

def k1m0 : Method := { name := "<init>", desc := "()V", sig := { parameters := [], returnType := none }, accessFlags := 1, code := none }
def k1c1 : Code := { maxStack := 8, maxLocals := 25, code := code, exceptionTable := #[], attributes := #[] }
def k1m1 : Method := { name := "law", desc := "(IIIIII)Z", sig := { parameters := [.int, .int, .int, .int, .int, .int], returnType := some .boolean }, accessFlags := 9, code := some k1c1 }
def k1c2 : Code := { maxStack := 4, maxLocals := 12, code := method_3_code, exceptionTable := #[], attributes := #[] }
def k1m2 : Method := { name := "dom", desc := "(JJJJ)J", sig := { parameters := [.long, .long, .long, .long], returnType := some .long }, accessFlags := 10, code := some k1c2 }
/-- DominantShareL3 -/
def k1 : Class := { plain "DominantShareL3" (some 0) with
  accessFlags := 49
  interfaces := #[]
  cf := some (fileOf pool1 21 #[] #[{ accessFlags := 1, nameIndex := 5, descriptorIndex := 6, attributes := #[] }, { accessFlags := 9, nameIndex := 42, descriptorIndex := 43, attributes := #[] }, { accessFlags := 10, nameIndex := 24, descriptorIndex := 25, attributes := #[] }] 49 2 #[] #[])
  fields := #[]
  methods := #[k1m0, k1m1, k1m2]
  instanceTypes := #[]
  staticTypes := #[]
  resolved := Array.replicate 47 none
  statics := none }

def pool2 : Array CpInfo := pool [(1, .methodref 2 3), (0, .class_ 4), (0, .nameAndType 5 6), (0, u "java/lang/Object"), (0, u "<init>"), (0, u "()V"), (0, .fieldref 8 9), (0, .class_ 10), (0, .nameAndType 11 12), (0, u "DominantShare"), (0, u "capRes"), (0, u "[I"), (0, .fieldref 8 14), (0, .nameAndType 15 12), (0, u "usedRes"), (0, .fieldref 8 17), (0, .nameAndType 18 12), (0, u "staged"), (0, .fieldref 8 20), (0, .nameAndType 21 12), (0, u "userWeight"), (0, .fieldref 8 23), (0, .nameAndType 24 12), (0, u "userCap"), (0, .fieldref 8 26), (0, .nameAndType 27 12), (0, u "running"), (0, .fieldref 8 29), (0, .nameAndType 30 12), (0, u "pendingCount"), (0, .fieldref 8 32), (0, .nameAndType 33 12), (0, u "headSlot"), (0, .fieldref 8 35), (0, .nameAndType 36 12), (0, u "domRes"), (0, .fieldref 8 38), (0, .nameAndType 39 12), (0, u "alloc"), (0, .fieldref 8 41), (0, .nameAndType 42 12), (0, u "slotState"), (0, .fieldref 8 44), (0, .nameAndType 45 12), (0, u "slotUser"), (0, .fieldref 8 47), (0, .nameAndType 48 12), (0, u "slotGang"), (0, .fieldref 8 50), (0, .nameAndType 51 12), (0, u "slotDemand"), (0, .fieldref 8 53), (0, .nameAndType 54 55), (0, u "slotSeq"), (0, u "[J"), (0, .integer 1000000), (0, .methodref 8 58), (0, .nameAndType 59 60), (0, u "clampInt"), (0, u "(III)I"), (0, .fieldref 8 62), (0, .nameAndType 63 64), (0, u "userCount"), (0, u "I"), (0, .methodref 8 66), (0, .nameAndType 67 68), (0, u "resetUser"), (0, u "(I)V"), (0, .methodref 8 70), (0, .nameAndType 71 68), (0, u "clearSlotFields"), (0, .fieldref 8 73), (0, .nameAndType 74 64), (0, u "freeCount"), (0, .fieldref 8 76), (0, .nameAndType 77 78), (0, u "seqCounter"), (0, u "J"), (0, .fieldref 8 80), (0, .nameAndType 81 64), (0, u "reserved"), (0, .methodref 8 83), (0, .nameAndType 84 85), (0, u "isUser"), (0, u "(I)Z"), (3, .methodref 8 90), (0, .nameAndType 91 6), (0, u "runReservationRule"), (3, .methodref 8 96), (0, .nameAndType 97 85), (0, u "isDemandValue"), (0, .methodref 8 99), (0, .nameAndType 100 85), (0, u "isGangValue"), (0, .methodref 8 102), (0, .nameAndType 103 104), (0, u "stagedIsZero"), (0, u "()Z"), (0, .methodref 8 106), (0, .nameAndType 107 85), (0, u "stagedNeverFits"), (0, .methodref 8 109), (0, .nameAndType 110 111), (0, u "lowestFreeSlot"), (0, u "()I"), (0, .methodref 8 113), (0, .nameAndType 114 115), (0, u "occupySlot"), (0, u "(III)V"), (0, .methodref 8 117), (0, .nameAndType 118 85), (0, u "isTask"), (3, .methodref 8 123), (0, .nameAndType 124 68), (0, u "recomputeHead"), (3, u "(II)V"), (0, .methodref 8 130), (0, .nameAndType 131 68), (0, u "recomputeDominant"), (0, .methodref 8 133), (0, .nameAndType 134 111), (0, u "bestFittingUser"), (0, .methodref 8 136), (0, .nameAndType 137 68), (0, u "grantTask"), (2, u "step"), (0, .methodref 8 142), (0, .nameAndType 143 85), (0, u "isResource"), (0, .methodref 8 145), (0, .nameAndType 146 147), (0, u "allocIndex"), (0, u "(II)I"), (0, .methodref 8 149), (0, .nameAndType 150 147), (0, u "compareUsers"), (0, .methodref 8 152), (0, .nameAndType 153 85), (0, u "fitsUser"), (0, .methodref 8 155), (0, .nameAndType 156 128), (0, u "addNeed"), (0, .methodref 8 158), (0, .nameAndType 159 147), (0, u "needOf"), (0, .methodref 8 161), (0, .nameAndType 162 163), (0, u "compareLong"), (0, u "(JJ)I"), (0, .methodref 8 165), (0, .nameAndType 166 167), (0, u "freeOf"), (0, u "(I)I"), (0, .methodref 8 169), (0, .nameAndType 170 147), (0, u "availableFor"), (0, .methodref 8 172), (0, .nameAndType 173 85), (0, u "isActive"), (0, .methodref 8 175), (0, .nameAndType 176 177), (0, u "headFits"), (0, u "(II)Z"), (0, .methodref 8 179), (0, .nameAndType 180 104), (0, u "reservationIsStale"), (0, .methodref 8 182), (0, .nameAndType 183 111), (0, u "chooseReservation"), (0, .methodref 8 185), (0, .nameAndType 186 111), (0, u "leader"), (3, u "RESOURCES"), (2, u "TASKS"), (1, u "FREE"), (1, u "PENDING"), (1, u "RUNNING"), (1, u "IDLE"), (0, u "CAPPED"), (0, u "WAITING"), (0, u "FITS"), (0, u "ERR_USER"), (1, u "ERR_GANG"), (1, u "ERR_ZERO"), (1, u "ERR_NEVER"), (1, u "ERR_FULL"), (1, u "BAD"), (0, u "(IIII)V"), (5, u "stage"), (0, u "(III)Z"), (0, u "submit"), (5, u "userAlloc"), (0, u "used"), (1, u "compareShares")] 4

def k2c0 : Code := { maxStack := 6, maxLocals := 6, code := prog_1_method_1_code, exceptionTable := #[], attributes := #[] }
def k2m0 : Method := { name := "<init>", desc := "(IIII)V", sig := { parameters := [.int, .int, .int, .int], returnType := none }, accessFlags := 1, code := some k2c0 }
def k2c1 : Code := { maxStack := 3, maxLocals := 4, code := prog_1_method_4_code, exceptionTable := #[], attributes := #[] }
def k2m1 : Method := { name := "stage", desc := "(III)Z", sig := { parameters := [.int, .int, .int], returnType := some .boolean }, accessFlags := 1, code := some k2c1 }
def k2c2 : Code := { maxStack := 4, maxLocals := 4, code := prog_1_method_5_code, exceptionTable := #[], attributes := #[] }
def k2m2 : Method := { name := "submit", desc := "(II)I", sig := { parameters := [.int, .int], returnType := some .int }, accessFlags := 1, code := some k2c2 }
def k2c3 : Code := { maxStack := 2, maxLocals := 3, code := prog_1_method_8_code, exceptionTable := #[], attributes := #[] }
def k2m3 : Method := { name := "step", desc := "()I", sig := { parameters := [], returnType := some .int }, accessFlags := 1, code := some k2c3 }
def k2c4 : Code := { maxStack := 4, maxLocals := 3, code := prog_1_method_12_code, exceptionTable := #[], attributes := #[] }
def k2m4 : Method := { name := "userAlloc", desc := "(II)I", sig := { parameters := [.int, .int], returnType := some .int }, accessFlags := 1, code := some k2c4 }
def k2c5 : Code := { maxStack := 2, maxLocals := 2, code := prog_1_method_13_code, exceptionTable := #[], attributes := #[] }
def k2m5 : Method := { name := "used", desc := "(I)I", sig := { parameters := [.int], returnType := some .int }, accessFlags := 1, code := some k2c5 }
def k2c6 : Code := { maxStack := 3, maxLocals := 3, code := prog_1_method_15_code, exceptionTable := #[], attributes := #[] }
def k2m6 : Method := { name := "compareShares", desc := "(II)I", sig := { parameters := [.int, .int], returnType := some .int }, accessFlags := 1, code := some k2c6 }
def k2c7 : Code := { maxStack := 2, maxLocals := 4, code := prog_1_method_18_code, exceptionTable := #[], attributes := #[] }
def k2m7 : Method := { name := "clampInt", desc := "(III)I", sig := { parameters := [.int, .int, .int], returnType := some .int }, accessFlags := 2, code := some k2c7 }
def k2c8 : Code := { maxStack := 2, maxLocals := 2, code := prog_1_method_19_code, exceptionTable := #[], attributes := #[] }
def k2m8 : Method := { name := "isUser", desc := "(I)Z", sig := { parameters := [.int], returnType := some .boolean }, accessFlags := 2, code := some k2c8 }
def k2c9 : Code := { maxStack := 2, maxLocals := 2, code := prog_1_method_20_code, exceptionTable := #[], attributes := #[] }
def k2m9 : Method := { name := "isTask", desc := "(I)Z", sig := { parameters := [.int], returnType := some .boolean }, accessFlags := 2, code := some k2c9 }
def k2c10 : Code := { maxStack := 2, maxLocals := 2, code := prog_1_method_21_code, exceptionTable := #[], attributes := #[] }
def k2m10 : Method := { name := "isResource", desc := "(I)Z", sig := { parameters := [.int], returnType := some .boolean }, accessFlags := 2, code := some k2c10 }
def k2c11 : Code := { maxStack := 2, maxLocals := 2, code := prog_1_method_22_code, exceptionTable := #[], attributes := #[] }
def k2m11 : Method := { name := "isGangValue", desc := "(I)Z", sig := { parameters := [.int], returnType := some .boolean }, accessFlags := 2, code := some k2c11 }
def k2c12 : Code := { maxStack := 2, maxLocals := 2, code := prog_1_method_25_code, exceptionTable := #[], attributes := #[] }
def k2m12 : Method := { name := "isDemandValue", desc := "(I)Z", sig := { parameters := [.int], returnType := some .boolean }, accessFlags := 2, code := some k2c12 }
def k2c13 : Code := { maxStack := 2, maxLocals := 3, code := prog_1_method_26_code, exceptionTable := #[], attributes := #[] }
def k2m13 : Method := { name := "allocIndex", desc := "(II)I", sig := { parameters := [.int, .int], returnType := some .int }, accessFlags := 2, code := some k2c13 }
def k2c14 : Code := { maxStack := 4, maxLocals := 5, code := prog_1_method_27_code, exceptionTable := #[], attributes := #[] }
def k2m14 : Method := { name := "compareLong", desc := "(JJ)I", sig := { parameters := [.long, .long], returnType := some .int }, accessFlags := 2, code := some k2c14 }
def k2c15 : Code := { maxStack := 4, maxLocals := 3, code := prog_1_method_28_code, exceptionTable := #[], attributes := #[] }
def k2m15 : Method := { name := "needOf", desc := "(II)I", sig := { parameters := [.int, .int], returnType := some .int }, accessFlags := 2, code := some k2c15 }
def k2c16 : Code := { maxStack := 2, maxLocals := 1, code := prog_1_method_29_code, exceptionTable := #[], attributes := #[] }
def k2m16 : Method := { name := "stagedIsZero", desc := "()Z", sig := { parameters := [], returnType := some .boolean }, accessFlags := 2, code := some k2c16 }
def k2c17 : Code := { maxStack := 4, maxLocals := 5, code := prog_1_method_30_code, exceptionTable := #[], attributes := #[] }
def k2m17 : Method := { name := "stagedNeverFits", desc := "(I)Z", sig := { parameters := [.int], returnType := some .boolean }, accessFlags := 2, code := some k2c17 }
def k2c18 : Code := { maxStack := 4, maxLocals := 3, code := prog_1_method_31_code, exceptionTable := #[], attributes := #[] }
def k2m18 : Method := { name := "resetUser", desc := "(I)V", sig := { parameters := [.int], returnType := none }, accessFlags := 2, code := some k2c18 }
def k2c19 : Code := { maxStack := 4, maxLocals := 3, code := prog_1_method_32_code, exceptionTable := #[], attributes := #[] }
def k2m19 : Method := { name := "clearSlotFields", desc := "(I)V", sig := { parameters := [.int], returnType := none }, accessFlags := 2, code := some k2c19 }
def k2c20 : Code := { maxStack := 2, maxLocals := 2, code := prog_1_method_34_code, exceptionTable := #[], attributes := #[] }
def k2m20 : Method := { name := "lowestFreeSlot", desc := "()I", sig := { parameters := [], returnType := some .int }, accessFlags := 2, code := some k2c20 }
def k2c21 : Code := { maxStack := 5, maxLocals := 5, code := prog_1_method_35_code, exceptionTable := #[], attributes := #[] }
def k2m21 : Method := { name := "occupySlot", desc := "(III)V", sig := { parameters := [.int, .int, .int], returnType := none }, accessFlags := 2, code := some k2c21 }
def k2c22 : Code := { maxStack := 4, maxLocals := 3, code := prog_1_method_36_code, exceptionTable := #[], attributes := #[] }
def k2m22 : Method := { name := "grantTask", desc := "(I)V", sig := { parameters := [.int], returnType := none }, accessFlags := 2, code := some k2c22 }
def k2c23 : Code := { maxStack := 4, maxLocals := 5, code := prog_1_method_37_code, exceptionTable := #[], attributes := #[] }
def k2m23 : Method := { name := "addNeed", desc := "(II)V", sig := { parameters := [.int, .int], returnType := none }, accessFlags := 2, code := some k2c23 }
def k2c24 : Code := { maxStack := 4, maxLocals := 4, code := prog_1_method_39_code, exceptionTable := #[], attributes := #[] }
def k2m24 : Method := { name := "recomputeHead", desc := "(I)V", sig := { parameters := [.int], returnType := none }, accessFlags := 2, code := some k2c24 }
def k2c25 : Code := { maxStack := 4, maxLocals := 8, code := prog_1_method_40_code, exceptionTable := #[], attributes := #[] }
def k2m25 : Method := { name := "recomputeDominant", desc := "(I)V", sig := { parameters := [.int], returnType := none }, accessFlags := 2, code := some k2c25 }
def k2c26 : Code := { maxStack := 5, maxLocals := 9, code := prog_1_method_41_code, exceptionTable := #[], attributes := #[] }
def k2m26 : Method := { name := "compareUsers", desc := "(II)I", sig := { parameters := [.int, .int], returnType := some .int }, accessFlags := 2, code := some k2c26 }
def k2c27 : Code := { maxStack := 3, maxLocals := 2, code := prog_1_method_42_code, exceptionTable := #[], attributes := #[] }
def k2m27 : Method := { name := "isActive", desc := "(I)Z", sig := { parameters := [.int], returnType := some .boolean }, accessFlags := 2, code := some k2c27 }
def k2c28 : Code := { maxStack := 3, maxLocals := 2, code := prog_1_method_43_code, exceptionTable := #[], attributes := #[] }
def k2m28 : Method := { name := "freeOf", desc := "(I)I", sig := { parameters := [.int], returnType := some .int }, accessFlags := 2, code := some k2c28 }
def k2c29 : Code := { maxStack := 4, maxLocals := 4, code := prog_1_method_44_code, exceptionTable := #[], attributes := #[] }
def k2m29 : Method := { name := "availableFor", desc := "(II)I", sig := { parameters := [.int, .int], returnType := some .int }, accessFlags := 2, code := some k2c29 }
def k2c30 : Code := { maxStack := 4, maxLocals := 5, code := prog_1_method_45_code, exceptionTable := #[], attributes := #[] }
def k2m30 : Method := { name := "headFits", desc := "(II)Z", sig := { parameters := [.int, .int], returnType := some .boolean }, accessFlags := 2, code := some k2c30 }
def k2c31 : Code := { maxStack := 3, maxLocals := 3, code := prog_1_method_46_code, exceptionTable := #[], attributes := #[] }
def k2m31 : Method := { name := "fitsUser", desc := "(I)Z", sig := { parameters := [.int], returnType := some .boolean }, accessFlags := 2, code := some k2c31 }
def k2c32 : Code := { maxStack := 3, maxLocals := 3, code := prog_1_method_48_code, exceptionTable := #[], attributes := #[] }
def k2m32 : Method := { name := "leader", desc := "()I", sig := { parameters := [], returnType := some .int }, accessFlags := 2, code := some k2c32 }
def k2c33 : Code := { maxStack := 3, maxLocals := 3, code := prog_1_method_49_code, exceptionTable := #[], attributes := #[] }
def k2m33 : Method := { name := "bestFittingUser", desc := "()I", sig := { parameters := [], returnType := some .int }, accessFlags := 2, code := some k2c33 }
def k2c34 : Code := { maxStack := 2, maxLocals := 1, code := prog_1_method_50_code, exceptionTable := #[], attributes := #[] }
def k2m34 : Method := { name := "runReservationRule", desc := "()V", sig := { parameters := [], returnType := none }, accessFlags := 2, code := some k2c34 }
def k2c35 : Code := { maxStack := 2, maxLocals := 2, code := prog_1_method_51_code, exceptionTable := #[], attributes := #[] }
def k2m35 : Method := { name := "reservationIsStale", desc := "()Z", sig := { parameters := [], returnType := some .boolean }, accessFlags := 2, code := some k2c35 }
def k2c36 : Code := { maxStack := 2, maxLocals := 3, code := prog_1_method_52_code, exceptionTable := #[], attributes := #[] }
def k2m36 : Method := { name := "chooseReservation", desc := "()I", sig := { parameters := [], returnType := some .int }, accessFlags := 2, code := some k2c36 }
/-- DominantShare -/
def k2 : Class := { plain "DominantShare" (some 0) with
  accessFlags := 49
  interfaces := #[]
  cf := some (fileOf pool2 8 #[] #[{ accessFlags := 1, nameIndex := 5, descriptorIndex := 216, attributes := #[] }, { accessFlags := 1, nameIndex := 222, descriptorIndex := 223, attributes := #[] }, { accessFlags := 1, nameIndex := 224, descriptorIndex := 147, attributes := #[] }, { accessFlags := 1, nameIndex := 140, descriptorIndex := 111, attributes := #[] }, { accessFlags := 1, nameIndex := 230, descriptorIndex := 147, attributes := #[] }, { accessFlags := 1, nameIndex := 231, descriptorIndex := 167, attributes := #[] }, { accessFlags := 1, nameIndex := 233, descriptorIndex := 147, attributes := #[] }, { accessFlags := 2, nameIndex := 59, descriptorIndex := 60, attributes := #[] }, { accessFlags := 2, nameIndex := 84, descriptorIndex := 85, attributes := #[] }, { accessFlags := 2, nameIndex := 118, descriptorIndex := 85, attributes := #[] }, { accessFlags := 2, nameIndex := 143, descriptorIndex := 85, attributes := #[] }, { accessFlags := 2, nameIndex := 100, descriptorIndex := 85, attributes := #[] }, { accessFlags := 2, nameIndex := 97, descriptorIndex := 85, attributes := #[] }, { accessFlags := 2, nameIndex := 146, descriptorIndex := 147, attributes := #[] }, { accessFlags := 2, nameIndex := 162, descriptorIndex := 163, attributes := #[] }, { accessFlags := 2, nameIndex := 159, descriptorIndex := 147, attributes := #[] }, { accessFlags := 2, nameIndex := 103, descriptorIndex := 104, attributes := #[] }, { accessFlags := 2, nameIndex := 107, descriptorIndex := 85, attributes := #[] }, { accessFlags := 2, nameIndex := 67, descriptorIndex := 68, attributes := #[] }, { accessFlags := 2, nameIndex := 71, descriptorIndex := 68, attributes := #[] }, { accessFlags := 2, nameIndex := 110, descriptorIndex := 111, attributes := #[] }, { accessFlags := 2, nameIndex := 114, descriptorIndex := 115, attributes := #[] }, { accessFlags := 2, nameIndex := 137, descriptorIndex := 68, attributes := #[] }, { accessFlags := 2, nameIndex := 156, descriptorIndex := 128, attributes := #[] }, { accessFlags := 2, nameIndex := 124, descriptorIndex := 68, attributes := #[] }, { accessFlags := 2, nameIndex := 131, descriptorIndex := 68, attributes := #[] }, { accessFlags := 2, nameIndex := 150, descriptorIndex := 147, attributes := #[] }, { accessFlags := 2, nameIndex := 173, descriptorIndex := 85, attributes := #[] }, { accessFlags := 2, nameIndex := 166, descriptorIndex := 167, attributes := #[] }, { accessFlags := 2, nameIndex := 170, descriptorIndex := 147, attributes := #[] }, { accessFlags := 2, nameIndex := 176, descriptorIndex := 177, attributes := #[] }, { accessFlags := 2, nameIndex := 153, descriptorIndex := 85, attributes := #[] }, { accessFlags := 2, nameIndex := 186, descriptorIndex := 111, attributes := #[] }, { accessFlags := 2, nameIndex := 134, descriptorIndex := 111, attributes := #[] }, { accessFlags := 2, nameIndex := 91, descriptorIndex := 6, attributes := #[] }, { accessFlags := 2, nameIndex := 180, descriptorIndex := 104, attributes := #[] }, { accessFlags := 2, nameIndex := 183, descriptorIndex := 111, attributes := #[] }] 49 2 #[] #[{ accessFlags := 25, nameIndex := 190, descriptorIndex := 64, attributes := #[] }, { accessFlags := 25, nameIndex := 193, descriptorIndex := 64, attributes := #[] }, { accessFlags := 25, nameIndex := 195, descriptorIndex := 64, attributes := #[] }, { accessFlags := 25, nameIndex := 197, descriptorIndex := 64, attributes := #[] }, { accessFlags := 25, nameIndex := 199, descriptorIndex := 64, attributes := #[] }, { accessFlags := 25, nameIndex := 201, descriptorIndex := 64, attributes := #[] }, { accessFlags := 25, nameIndex := 202, descriptorIndex := 64, attributes := #[] }, { accessFlags := 25, nameIndex := 203, descriptorIndex := 64, attributes := #[] }, { accessFlags := 25, nameIndex := 204, descriptorIndex := 64, attributes := #[] }, { accessFlags := 25, nameIndex := 205, descriptorIndex := 64, attributes := #[] }, { accessFlags := 25, nameIndex := 207, descriptorIndex := 64, attributes := #[] }, { accessFlags := 25, nameIndex := 209, descriptorIndex := 64, attributes := #[] }, { accessFlags := 25, nameIndex := 211, descriptorIndex := 64, attributes := #[] }, { accessFlags := 25, nameIndex := 213, descriptorIndex := 64, attributes := #[] }, { accessFlags := 25, nameIndex := 215, descriptorIndex := 64, attributes := #[] }, { accessFlags := 18, nameIndex := 11, descriptorIndex := 12, attributes := #[] }, { accessFlags := 18, nameIndex := 15, descriptorIndex := 12, attributes := #[] }, { accessFlags := 18, nameIndex := 18, descriptorIndex := 12, attributes := #[] }, { accessFlags := 18, nameIndex := 21, descriptorIndex := 12, attributes := #[] }, { accessFlags := 18, nameIndex := 24, descriptorIndex := 12, attributes := #[] }, { accessFlags := 18, nameIndex := 27, descriptorIndex := 12, attributes := #[] }, { accessFlags := 18, nameIndex := 30, descriptorIndex := 12, attributes := #[] }, { accessFlags := 18, nameIndex := 33, descriptorIndex := 12, attributes := #[] }, { accessFlags := 18, nameIndex := 36, descriptorIndex := 12, attributes := #[] }, { accessFlags := 18, nameIndex := 39, descriptorIndex := 12, attributes := #[] }, { accessFlags := 18, nameIndex := 42, descriptorIndex := 12, attributes := #[] }, { accessFlags := 18, nameIndex := 45, descriptorIndex := 12, attributes := #[] }, { accessFlags := 18, nameIndex := 48, descriptorIndex := 12, attributes := #[] }, { accessFlags := 18, nameIndex := 51, descriptorIndex := 12, attributes := #[] }, { accessFlags := 18, nameIndex := 54, descriptorIndex := 55, attributes := #[] }, { accessFlags := 2, nameIndex := 63, descriptorIndex := 64, attributes := #[] }, { accessFlags := 2, nameIndex := 74, descriptorIndex := 64, attributes := #[] }, { accessFlags := 2, nameIndex := 77, descriptorIndex := 78, attributes := #[] }, { accessFlags := 2, nameIndex := 81, descriptorIndex := 64, attributes := #[] }])
  fields := #[{ name := "RESOURCES", type := .int, accessFlags := 25, slot := 0, constantValue := 0 }, { name := "TASKS", type := .int, accessFlags := 25, slot := 1, constantValue := 0 }, { name := "FREE", type := .int, accessFlags := 25, slot := 2, constantValue := 0 }, { name := "PENDING", type := .int, accessFlags := 25, slot := 3, constantValue := 0 }, { name := "RUNNING", type := .int, accessFlags := 25, slot := 4, constantValue := 0 }, { name := "IDLE", type := .int, accessFlags := 25, slot := 5, constantValue := 0 }, { name := "CAPPED", type := .int, accessFlags := 25, slot := 6, constantValue := 0 }, { name := "WAITING", type := .int, accessFlags := 25, slot := 7, constantValue := 0 }, { name := "FITS", type := .int, accessFlags := 25, slot := 8, constantValue := 0 }, { name := "ERR_USER", type := .int, accessFlags := 25, slot := 9, constantValue := 0 }, { name := "ERR_GANG", type := .int, accessFlags := 25, slot := 10, constantValue := 0 }, { name := "ERR_ZERO", type := .int, accessFlags := 25, slot := 11, constantValue := 0 }, { name := "ERR_NEVER", type := .int, accessFlags := 25, slot := 12, constantValue := 0 }, { name := "ERR_FULL", type := .int, accessFlags := 25, slot := 13, constantValue := 0 }, { name := "BAD", type := .int, accessFlags := 25, slot := 14, constantValue := 0 }, { name := "capRes", type := (.array .int), accessFlags := 18, slot := 0, constantValue := 0 }, { name := "usedRes", type := (.array .int), accessFlags := 18, slot := 1, constantValue := 0 }, { name := "staged", type := (.array .int), accessFlags := 18, slot := 2, constantValue := 0 }, { name := "userWeight", type := (.array .int), accessFlags := 18, slot := 3, constantValue := 0 }, { name := "userCap", type := (.array .int), accessFlags := 18, slot := 4, constantValue := 0 }, { name := "running", type := (.array .int), accessFlags := 18, slot := 5, constantValue := 0 }, { name := "pendingCount", type := (.array .int), accessFlags := 18, slot := 6, constantValue := 0 }, { name := "headSlot", type := (.array .int), accessFlags := 18, slot := 7, constantValue := 0 }, { name := "domRes", type := (.array .int), accessFlags := 18, slot := 8, constantValue := 0 }, { name := "alloc", type := (.array .int), accessFlags := 18, slot := 9, constantValue := 0 }, { name := "slotState", type := (.array .int), accessFlags := 18, slot := 10, constantValue := 0 }, { name := "slotUser", type := (.array .int), accessFlags := 18, slot := 11, constantValue := 0 }, { name := "slotGang", type := (.array .int), accessFlags := 18, slot := 12, constantValue := 0 }, { name := "slotDemand", type := (.array .int), accessFlags := 18, slot := 13, constantValue := 0 }, { name := "slotSeq", type := (.array .long), accessFlags := 18, slot := 14, constantValue := 0 }, { name := "userCount", type := .int, accessFlags := 2, slot := 15, constantValue := 0 }, { name := "freeCount", type := .int, accessFlags := 2, slot := 16, constantValue := 0 }, { name := "seqCounter", type := .long, accessFlags := 2, slot := 17, constantValue := 0 }, { name := "reserved", type := .int, accessFlags := 2, slot := 18, constantValue := 0 }]
  methods := #[k2m0, k2m1, k2m2, k2m3, k2m4, k2m5, k2m6, k2m7, k2m8, k2m9, k2m10, k2m11, k2m12, k2m13, k2m14, k2m15, k2m16, k2m17, k2m18, k2m19, k2m20, k2m21, k2m22, k2m23, k2m24, k2m25, k2m26, k2m27, k2m28, k2m29, k2m30, k2m31, k2m32, k2m33, k2m34, k2m35, k2m36]
  instanceTypes := #[(.array .int), (.array .int), (.array .int), (.array .int), (.array .int), (.array .int), (.array .int), (.array .int), (.array .int), (.array .int), (.array .int), (.array .int), (.array .int), (.array .int), (.array .long), .int, .int, .long, .int]
  staticTypes := #[.int, .int, .int, .int, .int, .int, .int, .int, .int, .int, .int, .int, .int, .int, .int]
  resolved := Array.replicate 238 none
  statics := none }

def pool3 : Array CpInfo := pool [(1, u "java/lang/Cloneable"), (0, .class_ 1), (0, u "java/lang/Object"), (0, .class_ 3)] 3

/-- java/lang/Cloneable -/
def k3 : Class := { plain "java/lang/Cloneable" (some 0) with
  accessFlags := 1537
  interfaces := #[]
  cf := some (fileOf pool3 2 #[] #[] 1537 4 #[] #[])
  fields := #[]
  methods := #[]
  instanceTypes := #[]
  staticTypes := #[]
  resolved := Array.replicate 8 none
  statics := none }

def pool4 : Array CpInfo := pool [(1, u "java/io/Serializable"), (0, .class_ 1), (0, u "java/lang/Object"), (0, .class_ 3)] 3

/-- java/io/Serializable -/
def k4 : Class := { plain "java/io/Serializable" (some 0) with
  accessFlags := 1537
  interfaces := #[]
  cf := some (fileOf pool4 2 #[] #[] 1537 4 #[] #[])
  fields := #[]
  methods := #[]
  instanceTypes := #[]
  staticTypes := #[]
  resolved := Array.replicate 8 none
  statics := none }

/-- the primitive byte -/
def k5 : Class := { plain "byte" none with kind := .primitive 'B', accessFlags := 0x411 }
/-- [B -/
def k6 : Class := { plain "[B" (some 0) with kind := .array 5 .byte, interfaces := #[3, 4], accessFlags := 1041 }

/-- the primitive int -/
def k7 : Class := { plain "int" none with kind := .primitive 'I', accessFlags := 0x411 }
/-- [I -/
def k8 : Class := { plain "[I" (some 0) with kind := .array 7 .int, interfaces := #[3, 4], accessFlags := 1041 }

/-- the primitive long -/
def k9 : Class := { plain "long" none with kind := .primitive 'J', accessFlags := 0x411 }
/-- [J -/
def k10 : Class := { plain "[J" (some 0) with kind := .array 9 .long, interfaces := #[3, 4], accessFlags := 1041 }

def heap : Heap := #[]
def classes : Array Class := #[k0, k1, k2, k3, k4, k5, k6, k7, k8, k9, k10]
def interned : List (Array UInt16 × Addr) := []
def slotsUsed : Nat := 0
def theMethod : MethodId := ⟨1, 1⟩
def args0 : Array Value := #[.int 5, .int 2, .int 5, .int 7, .int 3, .int 1]
def aboutOver (below : List Frame) : State where
  vm := { classes := classes, interned := interned.toArray }
  heap := heap
  slotsUsed := slotsUsed
  threads := #[{ frames := .invoking theMethod args0 :: below }]
def below0 : List Frame := [.native { method := ⟨0, 0⟩, args := #[] }]
def about1 : State := aboutOver below0
def p0 : Program := .bare "" "" ""
def e0 : Env := launch0.env 0 0 0
theorem w_frames : about1.frames = Frame.invoking theMethod args0 :: below0 := rfl
set_option maxRecDepth 65536 in
theorem w_args : argsFit about1.vm theMethod args0 = true := by decide +kernel
set_option maxRecDepth 65536 in
theorem w_heap : heapFits about1 = true := by decide +kernel
set_option maxRecDepth 65536 in
theorem w_runnable : about1.curStatus? = some .runnable := by decide +kernel
set_option maxRecDepth 65536 in
theorem w_alone : about1.alone = true := by decide +kernel
set_option maxRecDepth 65536 in
theorem w_named : about1.methodNamed? x = some theMethod := by decide +kernel
set_option maxRecDepth 65536 in
theorem w_hears : about1.hears theMethod below0 = true := by decide +kernel
set_option maxRecDepth 65536 in
theorem w_ripe : about1.ripe theMethod args0 below0 = true := by decide +kernel
theorem w_running : about1.status = .running := rfl
set_option maxRecDepth 65536 in
theorem w_room : about1.hasRoom e0.platform room_1 = true :=
  launch0.hasRoom_least _ room_1 (by decide +kernel) (by decide +kernel) (by decide +kernel) (by decide +kernel) (by decide +kernel) (by decide +kernel)
theorem allAtoms_all (ts : List Jvm.Cond) (a : Array Jvm.Value) (st : Jvm.State) : (allAtoms ts).before a st = ts.all (fun c => c.before a st) := by
  induction ts with
  | nil => rfl
  | cons c t ih =>
    show (Jvm.Cond.and c (allAtoms t)).before a st = _
    rw [Jvm.Cond.before_and, ih, List.all_cons]
def words1 : List Jvm.Cond := Jvm.Cond.code x code maxLocals ret :: tables_1
/-- a 'code' word, met by the world's own term for the bytes: nothing is compared byte by byte -/
theorem code_word {y : MethodName} {bytes : ByteArray} {mx : Nat} {rt : Option FieldType} {a : Array Value} {s : State} {m : MethodId} {meth : Method} {c : Code} (h1 : s.methodNamed? y = some m) (h2 : s.vm.method? m = some meth) (h3 : meth.code = some c) (h4 : c.code = bytes)
    (h5 : (c.maxLocals == mx && c.exceptionTable.isEmpty && decide (c.maxStack ≤ mostOperands) && decide (meth.sig.returnType = rt) && !meth.locks && decide (parseMethodDescriptor y.desc = some meth.sig)) = true) : (Jvm.Cond.code y bytes mx rt).before a s = true := by
  simp only [Bool.and_eq_true, beq_iff_eq, Bool.not_eq_true', decide_eq_true_eq] at h5
  obtain ⟨⟨⟨⟨⟨g1, g2⟩, g3⟩, g4⟩, g5⟩, g6⟩ := h5
  simp [Cond.before, Cond.holds, Cond.value, h1, h2, h3, h4, g1, g2, g3, g4, g5, g6]
def isCode : Jvm.Cond → Bool
  | .code _ _ _ _ => true
  | _ => false
theorem all_split {L : List Jvm.Cond} {P : Jvm.Cond → Bool} (h1 : L.all (fun c => isCode c || P c) = true) (h2 : ∀ c ∈ L.filter isCode, P c = true) : L.all P = true := by
  refine List.all_eq_true.mpr fun c hc => ?_
  have h := List.all_eq_true.mp h1 c hc
  rcases Bool.eq_false_or_eq_true (isCode c) with hi | hi
  · exact h2 c (List.mem_filter.mpr ⟨hc, hi⟩)
  · simpa [hi] using h
set_option maxRecDepth 65536 in
theorem w_c0 : (Jvm.Cond.code x code maxLocals ret).before args0 about1 = true := code_word (m := ⟨1, 1⟩) (meth := k1m1) (c := k1c1) (by decide +kernel) rfl rfl rfl (by decide +kernel)
set_option maxRecDepth 65536 in
theorem w_c1 : (Jvm.Cond.code ({ cls := "DominantShare", name := "<init>", desc := "(IIII)V" } : Jvm.MethodName) prog_1_method_1_code (6 : Nat) (Option.none : Option Jvm.ClassFile.FieldType)).before args0 about1 = true := code_word (m := ⟨2, 0⟩) (meth := k2m0) (c := k2c0) (by decide +kernel) rfl rfl rfl (by decide +kernel)
set_option maxRecDepth 65536 in
theorem w_c2 : (Jvm.Cond.code ({ cls := "java/lang/Object", name := "<init>", desc := "()V" } : Jvm.MethodName) object_method_1_code (1 : Nat) (Option.none : Option Jvm.ClassFile.FieldType)).before args0 about1 = true := code_word (m := ⟨0, 0⟩) (meth := k0m0) (c := k0c0) (by decide +kernel) rfl rfl rfl (by decide +kernel)
set_option maxRecDepth 65536 in
theorem w_c3 : (Jvm.Cond.code ({ cls := "DominantShare", name := "clampInt", desc := "(III)I" } : Jvm.MethodName) prog_1_method_18_code (4 : Nat) (Option.some Jvm.ClassFile.FieldType.int)).before args0 about1 = true := code_word (m := ⟨2, 7⟩) (meth := k2m7) (c := k2c7) (by decide +kernel) rfl rfl rfl (by decide +kernel)
set_option maxRecDepth 65536 in
theorem w_c4 : (Jvm.Cond.code ({ cls := "DominantShare", name := "resetUser", desc := "(I)V" } : Jvm.MethodName) prog_1_method_31_code (3 : Nat) (Option.none : Option Jvm.ClassFile.FieldType)).before args0 about1 = true := code_word (m := ⟨2, 18⟩) (meth := k2m18) (c := k2c18) (by decide +kernel) rfl rfl rfl (by decide +kernel)
set_option maxRecDepth 65536 in
theorem w_c5 : (Jvm.Cond.code ({ cls := "DominantShare", name := "allocIndex", desc := "(II)I" } : Jvm.MethodName) prog_1_method_26_code (3 : Nat) (Option.some Jvm.ClassFile.FieldType.int)).before args0 about1 = true := code_word (m := ⟨2, 13⟩) (meth := k2m13) (c := k2c13) (by decide +kernel) rfl rfl rfl (by decide +kernel)
set_option maxRecDepth 65536 in
theorem w_c6 : (Jvm.Cond.code ({ cls := "DominantShare", name := "clearSlotFields", desc := "(I)V" } : Jvm.MethodName) prog_1_method_32_code (3 : Nat) (Option.none : Option Jvm.ClassFile.FieldType)).before args0 about1 = true := code_word (m := ⟨2, 19⟩) (meth := k2m19) (c := k2c19) (by decide +kernel) rfl rfl rfl (by decide +kernel)
set_option maxRecDepth 65536 in
theorem w_c7 : (Jvm.Cond.code ({ cls := "DominantShare", name := "stage", desc := "(III)Z" } : Jvm.MethodName) prog_1_method_4_code (4 : Nat) (Option.some Jvm.ClassFile.FieldType.boolean)).before args0 about1 = true := code_word (m := ⟨2, 1⟩) (meth := k2m1) (c := k2c1) (by decide +kernel) rfl rfl rfl (by decide +kernel)
set_option maxRecDepth 65536 in
theorem w_c8 : (Jvm.Cond.code ({ cls := "DominantShare", name := "isDemandValue", desc := "(I)Z" } : Jvm.MethodName) prog_1_method_25_code (2 : Nat) (Option.some Jvm.ClassFile.FieldType.boolean)).before args0 about1 = true := code_word (m := ⟨2, 12⟩) (meth := k2m12) (c := k2c12) (by decide +kernel) rfl rfl rfl (by decide +kernel)
set_option maxRecDepth 65536 in
theorem w_c9 : (Jvm.Cond.code ({ cls := "DominantShare", name := "submit", desc := "(II)I" } : Jvm.MethodName) prog_1_method_5_code (4 : Nat) (Option.some Jvm.ClassFile.FieldType.int)).before args0 about1 = true := code_word (m := ⟨2, 2⟩) (meth := k2m2) (c := k2c2) (by decide +kernel) rfl rfl rfl (by decide +kernel)
set_option maxRecDepth 65536 in
theorem w_c10 : (Jvm.Cond.code ({ cls := "DominantShare", name := "isUser", desc := "(I)Z" } : Jvm.MethodName) prog_1_method_19_code (2 : Nat) (Option.some Jvm.ClassFile.FieldType.boolean)).before args0 about1 = true := code_word (m := ⟨2, 8⟩) (meth := k2m8) (c := k2c8) (by decide +kernel) rfl rfl rfl (by decide +kernel)
set_option maxRecDepth 65536 in
theorem w_c11 : (Jvm.Cond.code ({ cls := "DominantShare", name := "isGangValue", desc := "(I)Z" } : Jvm.MethodName) prog_1_method_22_code (2 : Nat) (Option.some Jvm.ClassFile.FieldType.boolean)).before args0 about1 = true := code_word (m := ⟨2, 11⟩) (meth := k2m11) (c := k2c11) (by decide +kernel) rfl rfl rfl (by decide +kernel)
set_option maxRecDepth 65536 in
theorem w_c12 : (Jvm.Cond.code ({ cls := "DominantShare", name := "stagedIsZero", desc := "()Z" } : Jvm.MethodName) prog_1_method_29_code (1 : Nat) (Option.some Jvm.ClassFile.FieldType.boolean)).before args0 about1 = true := code_word (m := ⟨2, 16⟩) (meth := k2m16) (c := k2c16) (by decide +kernel) rfl rfl rfl (by decide +kernel)
set_option maxRecDepth 65536 in
theorem w_c13 : (Jvm.Cond.code ({ cls := "DominantShare", name := "stagedNeverFits", desc := "(I)Z" } : Jvm.MethodName) prog_1_method_30_code (5 : Nat) (Option.some Jvm.ClassFile.FieldType.boolean)).before args0 about1 = true := code_word (m := ⟨2, 17⟩) (meth := k2m17) (c := k2c17) (by decide +kernel) rfl rfl rfl (by decide +kernel)
set_option maxRecDepth 65536 in
theorem w_c14 : (Jvm.Cond.code ({ cls := "DominantShare", name := "lowestFreeSlot", desc := "()I" } : Jvm.MethodName) prog_1_method_34_code (2 : Nat) (Option.some Jvm.ClassFile.FieldType.int)).before args0 about1 = true := code_word (m := ⟨2, 20⟩) (meth := k2m20) (c := k2c20) (by decide +kernel) rfl rfl rfl (by decide +kernel)
set_option maxRecDepth 65536 in
theorem w_c15 : (Jvm.Cond.code ({ cls := "DominantShare", name := "occupySlot", desc := "(III)V" } : Jvm.MethodName) prog_1_method_35_code (5 : Nat) (Option.none : Option Jvm.ClassFile.FieldType)).before args0 about1 = true := code_word (m := ⟨2, 21⟩) (meth := k2m21) (c := k2c21) (by decide +kernel) rfl rfl rfl (by decide +kernel)
set_option maxRecDepth 65536 in
theorem w_c16 : (Jvm.Cond.code ({ cls := "DominantShare", name := "runReservationRule", desc := "()V" } : Jvm.MethodName) prog_1_method_50_code (1 : Nat) (Option.none : Option Jvm.ClassFile.FieldType)).before args0 about1 = true := code_word (m := ⟨2, 34⟩) (meth := k2m34) (c := k2c34) (by decide +kernel) rfl rfl rfl (by decide +kernel)
set_option maxRecDepth 65536 in
theorem w_c17 : (Jvm.Cond.code ({ cls := "DominantShare", name := "reservationIsStale", desc := "()Z" } : Jvm.MethodName) prog_1_method_51_code (2 : Nat) (Option.some Jvm.ClassFile.FieldType.boolean)).before args0 about1 = true := code_word (m := ⟨2, 35⟩) (meth := k2m35) (c := k2c35) (by decide +kernel) rfl rfl rfl (by decide +kernel)
set_option maxRecDepth 65536 in
theorem w_c18 : (Jvm.Cond.code ({ cls := "DominantShare", name := "chooseReservation", desc := "()I" } : Jvm.MethodName) prog_1_method_52_code (3 : Nat) (Option.some Jvm.ClassFile.FieldType.int)).before args0 about1 = true := code_word (m := ⟨2, 36⟩) (meth := k2m36) (c := k2c36) (by decide +kernel) rfl rfl rfl (by decide +kernel)
set_option maxRecDepth 65536 in
theorem w_c19 : (Jvm.Cond.code ({ cls := "DominantShare", name := "leader", desc := "()I" } : Jvm.MethodName) prog_1_method_48_code (3 : Nat) (Option.some Jvm.ClassFile.FieldType.int)).before args0 about1 = true := code_word (m := ⟨2, 32⟩) (meth := k2m32) (c := k2c32) (by decide +kernel) rfl rfl rfl (by decide +kernel)
set_option maxRecDepth 65536 in
theorem w_c20 : (Jvm.Cond.code ({ cls := "DominantShare", name := "isActive", desc := "(I)Z" } : Jvm.MethodName) prog_1_method_42_code (2 : Nat) (Option.some Jvm.ClassFile.FieldType.boolean)).before args0 about1 = true := code_word (m := ⟨2, 27⟩) (meth := k2m27) (c := k2c27) (by decide +kernel) rfl rfl rfl (by decide +kernel)
set_option maxRecDepth 65536 in
theorem w_c21 : (Jvm.Cond.code ({ cls := "DominantShare", name := "isTask", desc := "(I)Z" } : Jvm.MethodName) prog_1_method_20_code (2 : Nat) (Option.some Jvm.ClassFile.FieldType.boolean)).before args0 about1 = true := code_word (m := ⟨2, 9⟩) (meth := k2m9) (c := k2c9) (by decide +kernel) rfl rfl rfl (by decide +kernel)
set_option maxRecDepth 65536 in
theorem w_c22 : (Jvm.Cond.code ({ cls := "DominantShare", name := "compareUsers", desc := "(II)I" } : Jvm.MethodName) prog_1_method_41_code (9 : Nat) (Option.some Jvm.ClassFile.FieldType.int)).before args0 about1 = true := code_word (m := ⟨2, 26⟩) (meth := k2m26) (c := k2c26) (by decide +kernel) rfl rfl rfl (by decide +kernel)
set_option maxRecDepth 65536 in
theorem w_c23 : (Jvm.Cond.code ({ cls := "DominantShare", name := "compareLong", desc := "(JJ)I" } : Jvm.MethodName) prog_1_method_27_code (5 : Nat) (Option.some Jvm.ClassFile.FieldType.int)).before args0 about1 = true := code_word (m := ⟨2, 14⟩) (meth := k2m14) (c := k2c14) (by decide +kernel) rfl rfl rfl (by decide +kernel)
set_option maxRecDepth 65536 in
theorem w_c24 : (Jvm.Cond.code ({ cls := "DominantShareL3", name := "dom", desc := "(JJJJ)J" } : Jvm.MethodName) method_3_code (12 : Nat) (Option.some Jvm.ClassFile.FieldType.long)).before args0 about1 = true := code_word (m := ⟨1, 2⟩) (meth := k1m2) (c := k1c2) (by decide +kernel) rfl rfl rfl (by decide +kernel)
set_option maxRecDepth 65536 in
theorem w_c25 : (Jvm.Cond.code ({ cls := "DominantShare", name := "step", desc := "()I" } : Jvm.MethodName) prog_1_method_8_code (3 : Nat) (Option.some Jvm.ClassFile.FieldType.int)).before args0 about1 = true := code_word (m := ⟨2, 3⟩) (meth := k2m3) (c := k2c3) (by decide +kernel) rfl rfl rfl (by decide +kernel)
set_option maxRecDepth 65536 in
theorem w_c26 : (Jvm.Cond.code ({ cls := "DominantShare", name := "bestFittingUser", desc := "()I" } : Jvm.MethodName) prog_1_method_49_code (3 : Nat) (Option.some Jvm.ClassFile.FieldType.int)).before args0 about1 = true := code_word (m := ⟨2, 33⟩) (meth := k2m33) (c := k2c33) (by decide +kernel) rfl rfl rfl (by decide +kernel)
set_option maxRecDepth 65536 in
theorem w_c27 : (Jvm.Cond.code ({ cls := "DominantShare", name := "fitsUser", desc := "(I)Z" } : Jvm.MethodName) prog_1_method_46_code (3 : Nat) (Option.some Jvm.ClassFile.FieldType.boolean)).before args0 about1 = true := code_word (m := ⟨2, 31⟩) (meth := k2m31) (c := k2c31) (by decide +kernel) rfl rfl rfl (by decide +kernel)
set_option maxRecDepth 65536 in
theorem w_c28 : (Jvm.Cond.code ({ cls := "DominantShare", name := "headFits", desc := "(II)Z" } : Jvm.MethodName) prog_1_method_45_code (5 : Nat) (Option.some Jvm.ClassFile.FieldType.boolean)).before args0 about1 = true := code_word (m := ⟨2, 30⟩) (meth := k2m30) (c := k2c30) (by decide +kernel) rfl rfl rfl (by decide +kernel)
set_option maxRecDepth 65536 in
theorem w_c29 : (Jvm.Cond.code ({ cls := "DominantShare", name := "needOf", desc := "(II)I" } : Jvm.MethodName) prog_1_method_28_code (3 : Nat) (Option.some Jvm.ClassFile.FieldType.int)).before args0 about1 = true := code_word (m := ⟨2, 15⟩) (meth := k2m15) (c := k2c15) (by decide +kernel) rfl rfl rfl (by decide +kernel)
set_option maxRecDepth 65536 in
theorem w_c30 : (Jvm.Cond.code ({ cls := "DominantShare", name := "availableFor", desc := "(II)I" } : Jvm.MethodName) prog_1_method_44_code (4 : Nat) (Option.some Jvm.ClassFile.FieldType.int)).before args0 about1 = true := code_word (m := ⟨2, 29⟩) (meth := k2m29) (c := k2c29) (by decide +kernel) rfl rfl rfl (by decide +kernel)
set_option maxRecDepth 65536 in
theorem w_c31 : (Jvm.Cond.code ({ cls := "DominantShare", name := "freeOf", desc := "(I)I" } : Jvm.MethodName) prog_1_method_43_code (2 : Nat) (Option.some Jvm.ClassFile.FieldType.int)).before args0 about1 = true := code_word (m := ⟨2, 28⟩) (meth := k2m28) (c := k2c28) (by decide +kernel) rfl rfl rfl (by decide +kernel)
set_option maxRecDepth 65536 in
theorem w_c32 : (Jvm.Cond.code ({ cls := "DominantShare", name := "grantTask", desc := "(I)V" } : Jvm.MethodName) prog_1_method_36_code (3 : Nat) (Option.none : Option Jvm.ClassFile.FieldType)).before args0 about1 = true := code_word (m := ⟨2, 22⟩) (meth := k2m22) (c := k2c22) (by decide +kernel) rfl rfl rfl (by decide +kernel)
set_option maxRecDepth 65536 in
theorem w_c33 : (Jvm.Cond.code ({ cls := "DominantShare", name := "addNeed", desc := "(II)V" } : Jvm.MethodName) prog_1_method_37_code (5 : Nat) (Option.none : Option Jvm.ClassFile.FieldType)).before args0 about1 = true := code_word (m := ⟨2, 23⟩) (meth := k2m23) (c := k2c23) (by decide +kernel) rfl rfl rfl (by decide +kernel)
set_option maxRecDepth 65536 in
theorem w_c34 : (Jvm.Cond.code ({ cls := "DominantShare", name := "recomputeHead", desc := "(I)V" } : Jvm.MethodName) prog_1_method_39_code (4 : Nat) (Option.none : Option Jvm.ClassFile.FieldType)).before args0 about1 = true := code_word (m := ⟨2, 24⟩) (meth := k2m24) (c := k2c24) (by decide +kernel) rfl rfl rfl (by decide +kernel)
set_option maxRecDepth 65536 in
theorem w_c35 : (Jvm.Cond.code ({ cls := "DominantShare", name := "recomputeDominant", desc := "(I)V" } : Jvm.MethodName) prog_1_method_40_code (8 : Nat) (Option.none : Option Jvm.ClassFile.FieldType)).before args0 about1 = true := code_word (m := ⟨2, 25⟩) (meth := k2m25) (c := k2c25) (by decide +kernel) rfl rfl rfl (by decide +kernel)
set_option maxRecDepth 65536 in
theorem w_c36 : (Jvm.Cond.code ({ cls := "DominantShare", name := "used", desc := "(I)I" } : Jvm.MethodName) prog_1_method_13_code (2 : Nat) (Option.some Jvm.ClassFile.FieldType.int)).before args0 about1 = true := code_word (m := ⟨2, 5⟩) (meth := k2m5) (c := k2c5) (by decide +kernel) rfl rfl rfl (by decide +kernel)
set_option maxRecDepth 65536 in
theorem w_c37 : (Jvm.Cond.code ({ cls := "DominantShare", name := "isResource", desc := "(I)Z" } : Jvm.MethodName) prog_1_method_21_code (2 : Nat) (Option.some Jvm.ClassFile.FieldType.boolean)).before args0 about1 = true := code_word (m := ⟨2, 10⟩) (meth := k2m10) (c := k2c10) (by decide +kernel) rfl rfl rfl (by decide +kernel)
set_option maxRecDepth 65536 in
theorem w_c38 : (Jvm.Cond.code ({ cls := "DominantShare", name := "userAlloc", desc := "(II)I" } : Jvm.MethodName) prog_1_method_12_code (3 : Nat) (Option.some Jvm.ClassFile.FieldType.int)).before args0 about1 = true := code_word (m := ⟨2, 4⟩) (meth := k2m4) (c := k2c4) (by decide +kernel) rfl rfl rfl (by decide +kernel)
set_option maxRecDepth 65536 in
theorem w_c39 : (Jvm.Cond.code ({ cls := "DominantShare", name := "compareShares", desc := "(II)I" } : Jvm.MethodName) prog_1_method_15_code (3 : Nat) (Option.some Jvm.ClassFile.FieldType.int)).before args0 about1 = true := code_word (m := ⟨2, 6⟩) (meth := k2m6) (c := k2c6) (by decide +kernel) rfl rfl rfl (by decide +kernel)
def codes1 : List Jvm.Cond := [Jvm.Cond.code x code maxLocals ret, Jvm.Cond.code ({ cls := "DominantShare", name := "<init>", desc := "(IIII)V" } : Jvm.MethodName) prog_1_method_1_code (6 : Nat) (Option.none : Option Jvm.ClassFile.FieldType), Jvm.Cond.code ({ cls := "java/lang/Object", name := "<init>", desc := "()V" } : Jvm.MethodName) object_method_1_code (1 : Nat) (Option.none : Option Jvm.ClassFile.FieldType), Jvm.Cond.code ({ cls := "DominantShare", name := "clampInt", desc := "(III)I" } : Jvm.MethodName) prog_1_method_18_code (4 : Nat) (Option.some Jvm.ClassFile.FieldType.int), Jvm.Cond.code ({ cls := "DominantShare", name := "resetUser", desc := "(I)V" } : Jvm.MethodName) prog_1_method_31_code (3 : Nat) (Option.none : Option Jvm.ClassFile.FieldType), Jvm.Cond.code ({ cls := "DominantShare", name := "allocIndex", desc := "(II)I" } : Jvm.MethodName) prog_1_method_26_code (3 : Nat) (Option.some Jvm.ClassFile.FieldType.int), Jvm.Cond.code ({ cls := "DominantShare", name := "clearSlotFields", desc := "(I)V" } : Jvm.MethodName) prog_1_method_32_code (3 : Nat) (Option.none : Option Jvm.ClassFile.FieldType), Jvm.Cond.code ({ cls := "DominantShare", name := "stage", desc := "(III)Z" } : Jvm.MethodName) prog_1_method_4_code (4 : Nat) (Option.some Jvm.ClassFile.FieldType.boolean), Jvm.Cond.code ({ cls := "DominantShare", name := "isDemandValue", desc := "(I)Z" } : Jvm.MethodName) prog_1_method_25_code (2 : Nat) (Option.some Jvm.ClassFile.FieldType.boolean), Jvm.Cond.code ({ cls := "DominantShare", name := "submit", desc := "(II)I" } : Jvm.MethodName) prog_1_method_5_code (4 : Nat) (Option.some Jvm.ClassFile.FieldType.int), Jvm.Cond.code ({ cls := "DominantShare", name := "isUser", desc := "(I)Z" } : Jvm.MethodName) prog_1_method_19_code (2 : Nat) (Option.some Jvm.ClassFile.FieldType.boolean), Jvm.Cond.code ({ cls := "DominantShare", name := "isGangValue", desc := "(I)Z" } : Jvm.MethodName) prog_1_method_22_code (2 : Nat) (Option.some Jvm.ClassFile.FieldType.boolean), Jvm.Cond.code ({ cls := "DominantShare", name := "stagedIsZero", desc := "()Z" } : Jvm.MethodName) prog_1_method_29_code (1 : Nat) (Option.some Jvm.ClassFile.FieldType.boolean), Jvm.Cond.code ({ cls := "DominantShare", name := "stagedNeverFits", desc := "(I)Z" } : Jvm.MethodName) prog_1_method_30_code (5 : Nat) (Option.some Jvm.ClassFile.FieldType.boolean), Jvm.Cond.code ({ cls := "DominantShare", name := "lowestFreeSlot", desc := "()I" } : Jvm.MethodName) prog_1_method_34_code (2 : Nat) (Option.some Jvm.ClassFile.FieldType.int), Jvm.Cond.code ({ cls := "DominantShare", name := "occupySlot", desc := "(III)V" } : Jvm.MethodName) prog_1_method_35_code (5 : Nat) (Option.none : Option Jvm.ClassFile.FieldType), Jvm.Cond.code ({ cls := "DominantShare", name := "runReservationRule", desc := "()V" } : Jvm.MethodName) prog_1_method_50_code (1 : Nat) (Option.none : Option Jvm.ClassFile.FieldType), Jvm.Cond.code ({ cls := "DominantShare", name := "reservationIsStale", desc := "()Z" } : Jvm.MethodName) prog_1_method_51_code (2 : Nat) (Option.some Jvm.ClassFile.FieldType.boolean), Jvm.Cond.code ({ cls := "DominantShare", name := "chooseReservation", desc := "()I" } : Jvm.MethodName) prog_1_method_52_code (3 : Nat) (Option.some Jvm.ClassFile.FieldType.int), Jvm.Cond.code ({ cls := "DominantShare", name := "leader", desc := "()I" } : Jvm.MethodName) prog_1_method_48_code (3 : Nat) (Option.some Jvm.ClassFile.FieldType.int), Jvm.Cond.code ({ cls := "DominantShare", name := "isActive", desc := "(I)Z" } : Jvm.MethodName) prog_1_method_42_code (2 : Nat) (Option.some Jvm.ClassFile.FieldType.boolean), Jvm.Cond.code ({ cls := "DominantShare", name := "isTask", desc := "(I)Z" } : Jvm.MethodName) prog_1_method_20_code (2 : Nat) (Option.some Jvm.ClassFile.FieldType.boolean), Jvm.Cond.code ({ cls := "DominantShare", name := "compareUsers", desc := "(II)I" } : Jvm.MethodName) prog_1_method_41_code (9 : Nat) (Option.some Jvm.ClassFile.FieldType.int), Jvm.Cond.code ({ cls := "DominantShare", name := "compareLong", desc := "(JJ)I" } : Jvm.MethodName) prog_1_method_27_code (5 : Nat) (Option.some Jvm.ClassFile.FieldType.int), Jvm.Cond.code ({ cls := "DominantShareL3", name := "dom", desc := "(JJJJ)J" } : Jvm.MethodName) method_3_code (12 : Nat) (Option.some Jvm.ClassFile.FieldType.long), Jvm.Cond.code ({ cls := "DominantShare", name := "step", desc := "()I" } : Jvm.MethodName) prog_1_method_8_code (3 : Nat) (Option.some Jvm.ClassFile.FieldType.int), Jvm.Cond.code ({ cls := "DominantShare", name := "bestFittingUser", desc := "()I" } : Jvm.MethodName) prog_1_method_49_code (3 : Nat) (Option.some Jvm.ClassFile.FieldType.int), Jvm.Cond.code ({ cls := "DominantShare", name := "fitsUser", desc := "(I)Z" } : Jvm.MethodName) prog_1_method_46_code (3 : Nat) (Option.some Jvm.ClassFile.FieldType.boolean), Jvm.Cond.code ({ cls := "DominantShare", name := "headFits", desc := "(II)Z" } : Jvm.MethodName) prog_1_method_45_code (5 : Nat) (Option.some Jvm.ClassFile.FieldType.boolean), Jvm.Cond.code ({ cls := "DominantShare", name := "needOf", desc := "(II)I" } : Jvm.MethodName) prog_1_method_28_code (3 : Nat) (Option.some Jvm.ClassFile.FieldType.int), Jvm.Cond.code ({ cls := "DominantShare", name := "availableFor", desc := "(II)I" } : Jvm.MethodName) prog_1_method_44_code (4 : Nat) (Option.some Jvm.ClassFile.FieldType.int), Jvm.Cond.code ({ cls := "DominantShare", name := "freeOf", desc := "(I)I" } : Jvm.MethodName) prog_1_method_43_code (2 : Nat) (Option.some Jvm.ClassFile.FieldType.int), Jvm.Cond.code ({ cls := "DominantShare", name := "grantTask", desc := "(I)V" } : Jvm.MethodName) prog_1_method_36_code (3 : Nat) (Option.none : Option Jvm.ClassFile.FieldType), Jvm.Cond.code ({ cls := "DominantShare", name := "addNeed", desc := "(II)V" } : Jvm.MethodName) prog_1_method_37_code (5 : Nat) (Option.none : Option Jvm.ClassFile.FieldType), Jvm.Cond.code ({ cls := "DominantShare", name := "recomputeHead", desc := "(I)V" } : Jvm.MethodName) prog_1_method_39_code (4 : Nat) (Option.none : Option Jvm.ClassFile.FieldType), Jvm.Cond.code ({ cls := "DominantShare", name := "recomputeDominant", desc := "(I)V" } : Jvm.MethodName) prog_1_method_40_code (8 : Nat) (Option.none : Option Jvm.ClassFile.FieldType), Jvm.Cond.code ({ cls := "DominantShare", name := "used", desc := "(I)I" } : Jvm.MethodName) prog_1_method_13_code (2 : Nat) (Option.some Jvm.ClassFile.FieldType.int), Jvm.Cond.code ({ cls := "DominantShare", name := "isResource", desc := "(I)Z" } : Jvm.MethodName) prog_1_method_21_code (2 : Nat) (Option.some Jvm.ClassFile.FieldType.boolean), Jvm.Cond.code ({ cls := "DominantShare", name := "userAlloc", desc := "(II)I" } : Jvm.MethodName) prog_1_method_12_code (3 : Nat) (Option.some Jvm.ClassFile.FieldType.int), Jvm.Cond.code ({ cls := "DominantShare", name := "compareShares", desc := "(II)I" } : Jvm.MethodName) prog_1_method_15_code (3 : Nat) (Option.some Jvm.ClassFile.FieldType.int)]
set_option maxRecDepth 65536 in
theorem codes_eq : words1.filter isCode = codes1 := rfl
theorem w_codes : ∀ c ∈ words1.filter isCode, c.before args0 about1 = true := by
  rw [codes_eq]
  intro c hc
  simp only [codes1, List.mem_cons, List.not_mem_nil, or_false] at hc
  rcases hc with rfl | rfl | rfl | rfl | rfl | rfl | rfl | rfl | rfl | rfl | rfl | rfl | rfl | rfl | rfl | rfl | rfl | rfl | rfl | rfl | rfl | rfl | rfl | rfl | rfl | rfl | rfl | rfl | rfl | rfl | rfl | rfl | rfl | rfl | rfl | rfl | rfl | rfl | rfl | rfl
  · exact w_c0
  · exact w_c1
  · exact w_c2
  · exact w_c3
  · exact w_c4
  · exact w_c5
  · exact w_c6
  · exact w_c7
  · exact w_c8
  · exact w_c9
  · exact w_c10
  · exact w_c11
  · exact w_c12
  · exact w_c13
  · exact w_c14
  · exact w_c15
  · exact w_c16
  · exact w_c17
  · exact w_c18
  · exact w_c19
  · exact w_c20
  · exact w_c21
  · exact w_c22
  · exact w_c23
  · exact w_c24
  · exact w_c25
  · exact w_c26
  · exact w_c27
  · exact w_c28
  · exact w_c29
  · exact w_c30
  · exact w_c31
  · exact w_c32
  · exact w_c33
  · exact w_c34
  · exact w_c35
  · exact w_c36
  · exact w_c37
  · exact w_c38
  · exact w_c39
set_option maxRecDepth 65536 in
theorem w_t1 : (words1.take 24).all (fun c => isCode c || c.before args0 about1) = true := by decide +kernel
set_option maxRecDepth 65536 in
theorem w_t2 : ((words1.drop 24).take 24).all (fun c => isCode c || c.before args0 about1) = true := by decide +kernel
set_option maxRecDepth 65536 in
theorem w_t3 : (((words1.drop 24).drop 24).take 24).all (fun c => isCode c || c.before args0 about1) = true := by decide +kernel
set_option maxRecDepth 65536 in
theorem w_t4 : ((((words1.drop 24).drop 24).drop 24).take 24).all (fun c => isCode c || c.before args0 about1) = true := by decide +kernel
set_option maxRecDepth 65536 in
theorem w_t5 : (((((words1.drop 24).drop 24).drop 24).drop 24).take 24).all (fun c => isCode c || c.before args0 about1) = true := by decide +kernel
set_option maxRecDepth 65536 in
theorem w_t6 : ((((((words1.drop 24).drop 24).drop 24).drop 24).drop 24).take 24).all (fun c => isCode c || c.before args0 about1) = true := by decide +kernel
set_option maxRecDepth 65536 in
theorem w_t7 : (((((((words1.drop 24).drop 24).drop 24).drop 24).drop 24).drop 24).take 24).all (fun c => isCode c || c.before args0 about1) = true := by decide +kernel
set_option maxRecDepth 65536 in
theorem w_t8 : ((((((((words1.drop 24).drop 24).drop 24).drop 24).drop 24).drop 24).drop 24).take 24).all (fun c => isCode c || c.before args0 about1) = true := by decide +kernel
set_option maxRecDepth 65536 in
theorem w_t9 : ((((((((words1.drop 24).drop 24).drop 24).drop 24).drop 24).drop 24).drop 24).drop 24).all (fun c => isCode c || c.before args0 about1) = true := by decide +kernel
theorem w_tables : (allAtoms (Jvm.Cond.code x code maxLocals ret :: tables_1)).before args0 about1 = true := by
  rw [allAtoms_all]
  show words1.all (fun c => c.before args0 about1) = true
  refine all_split ?_ w_codes
  rw [← List.take_append_drop 24 words1, List.all_append, w_t1, ← List.take_append_drop 24 (words1.drop 24), List.all_append, w_t2, ← List.take_append_drop 24 ((words1.drop 24).drop 24), List.all_append, w_t3, ← List.take_append_drop 24 (((words1.drop 24).drop 24).drop 24), List.all_append, w_t4, ← List.take_append_drop 24 ((((words1.drop 24).drop 24).drop 24).drop 24), List.all_append, w_t5, ← List.take_append_drop 24 (((((words1.drop 24).drop 24).drop 24).drop 24).drop 24), List.all_append, w_t6, ← List.take_append_drop 24 ((((((words1.drop 24).drop 24).drop 24).drop 24).drop 24).drop 24), List.all_append, w_t7, ← List.take_append_drop 24 (((((((words1.drop 24).drop 24).drop 24).drop 24).drop 24).drop 24).drop 24), List.all_append, w_t8, w_t9]
  rfl
set_option maxRecDepth 65536 in
theorem w_case : (Jvm.Cond.and given_1 narrow_1).before args0 about1 = true := by decide +kernel
theorem w_applies : (headSpec (Jvm.Cond.code x code maxLocals ret :: tables_1) room_1).applies x e0.platform about1 = true :=
  (Spec.applies_iff w_frames).mpr ⟨w_running, w_runnable, w_alone, w_named, w_hears, w_ripe, w_room, w_tables⟩
theorem atStart : AtStart classFile x code maxLocals ret World_1 tables_1 room_1 Calls_1 rest_1 Pre_1 launch0 p0 e0 about1 theMethod args0 below0 :=
  ⟨lists_1, trivial, launch0.admits_env _ _ _, launch0.least_env, fairChoices_fair.cas, fairChoices_fair.clock, w_frames, w_args, w_heap, w_applies, trivial, trivial, w_case⟩
end start1
theorem witness_1 : WitnessClaimed_1 := ⟨start1.p0, start1.e0, start1.about1, start1.theMethod, start1.args0, start1.below0, start1.atStart⟩
end Jvm.Pilot.@@N@@
