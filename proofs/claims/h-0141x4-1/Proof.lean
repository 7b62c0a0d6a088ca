import JvmDerived
import JvmDerived.Pilot.@@N@@Statement
import JvmDerived.Pilot.@@N@@Code
set_option linter.unusedVariables false
set_option linter.unusedSimpArgs false
namespace Jvm.Pilot.@@N@@
open Jvm Jvm.ClassFile Sem Op Lib Jvm.Free Jvm.Stand Jvm.LawKit Jvm.RoadKit Bundle Jvm.Pilot.@@N@@.Jvm.D
/-! THE ABSTRACT MACHINE: a config (pc, locals, stack, contents) over numbered cells, and its steps over the library's laws (family of example/lawnew). -/
abbrev Sg := (Nat → Nat → Int32) × (Nat → Nat → Int64)
def gi (σ : Sg) (k i : Nat) : Int32 := σ.1 k i
def gj (σ : Sg) (k i : Nat) : Int64 := σ.2 k i
def si (σ : Sg) (k i : Nat) (v : Int32) : Sg := (fun k' i' => if k' = k ∧ i' = i then v else σ.1 k' i', σ.2)
def sj (σ : Sg) (k i : Nat) (v : Int64) : Sg := (σ.1, fun k' i' => if k' = k ∧ i' = i then v else σ.2 k' i')
def zs : Sg := (fun _ _ => 0, fun _ _ => 0)
theorem gi_si (σ : Sg) (k i k' i' : Nat) (v : Int32) : gi (si σ k i v) k' i' = if k' = k ∧ i' = i then v else gi σ k' i' := of_eq_true (eq_self _)
theorem gj_sj (σ : Sg) (k i k' i' : Nat) (v : Int64) : gj (sj σ k i v) k' i' = if k' = k ∧ i' = i then v else gj σ k' i' := of_eq_true (eq_self _)
theorem gi_sj (σ : Sg) (k i k' i' : Nat) (v : Int64) : gi (sj σ k i v) k' i' = gi σ k' i' := of_eq_true (eq_self _)
theorem gj_si (σ : Sg) (k i k' i' : Nat) (v : Int32) : gj (si σ k i v) k' i' = gj σ k' i' := of_eq_true (eq_self _)
theorem gi_zs (k i : Nat) : gi zs k i = 0 := of_eq_true (eq_self _)
theorem gj_zs (k i : Nat) : gj zs k i = 0 := of_eq_true (eq_self _)
def nx (i : Int32) : Nat := i.toInt.toNat
/-- a numbered cell: an object of the class with its first q arrays laid; an array of n places (its own, or one that is only read) -/
abbrev CD := Nat ⊕ (FieldType × Nat × Option (Nat → Int32))
abbrev FS := List (String × String × Nat)
def cv (A : Nat → Addr) : Value → Value
  | .ref k => .ref (A k)
  | v => v
def fv (σ : Sg) (k j q : Nat) : Nat → Value
  | 0 => .int (gi σ k j)
  | 1 => .long (gj σ k j)
  | r + 2 => if r < q then .ref (k + (r + 1)) else .null
def ae (σ : Sg) (k i : Nat) : FieldType → Value
  | .long => .long (gj σ k i)
  | _ => .int (gi σ k i)
def aeo (σ : Sg) (k i : Nat) (ty : FieldType) : Option (Nat → Int32) → Value
  | none => ae σ k i ty
  | some f => .int (f i)
def wrb : CD → Bool
  | .inl _ => true
  | .inr (_, _, o) => o.isNone
def CellOk (Z : State) (C : String) (fs : FS) (h : Heap) (A : Nat → Addr) (σ : Sg) (k : Nat) : CD → Prop
  | .inl q => Exa Z h (A k) C ∧ ∀ (j : Nat) (n d : String) (cd : Nat), fs[j]? = some (n, d, cd) → Fld Z h (A k) C n d (cv A (fv σ k j q cd))
  | .inr (ty, n, o) => ∃ c : Cell, Arr Z h (A k) c ty ∧ c.slots.size = n ∧ ∀ i, i < n → c.slots[i]? = some (aeo σ k i ty o)
def Wd (Z : State) (C : String) (fs : FS) (h : Heap) (A : Nat → Addr) (w : Nat → Option CD) (σ : Sg) : Prop :=
  (∀ k d, w k = some d → CellOk Z C fs h A σ k d) ∧ ∀ k k' d d', w k = some d → w k' = some d' → A k = A k' → k = k'
def Out (h0 h : Heap) (A : Nat → Addr) (w : Nat → Option CD) : Prop := h0.size ≤ h.size ∧ ∀ (b : Addr) (c : Cell), h0[b]? = some c → (∀ k d, w k = some d → wrb d = true → A k ≠ b) → h[b]? = some c
def Nw (n0 : Nat) (A : Nat → Addr) (w : Nat → Option CD) : Prop := ∀ k d, w k = some d → wrb d = true → n0 ≤ A k
theorem Out.refl (h : Heap) (A : Nat → Addr) (w : Nat → Option CD) : Out h h A w := ⟨Nat.le_refl _, fun _ _ q _ => q⟩
theorem cv_cat (A : Nat → Addr) (v : Value) : (cv A v).category = v.category := by cases v <;> rfl
/-! locals -/
def WP (rl : List Slot) : Prop := ∀ k, rl[k]? = some .second ↔ ∃ k', k = k' + 1 ∧ ∃ w : Value, rl[k']? = some (.val w) ∧ w.category = 2
def LsOk (A : Nat → Addr) (Ls rl : List Slot) : Prop := rl.length = Ls.length ∧ WP rl ∧ ∀ (k : Nat) (v : Value), Ls[k]? = some (.val v) → rl[k]? = some (.val (cv A v))
def cl1 (Ls : List Slot) : Nat → List Slot
  | 0 => Ls
  | k + 1 => match Ls[k]? with
    | some (.val u) => if u.category = 2 then Ls.set k .unset else Ls
    | _ => Ls
def st1 (Ls : List Slot) (k : Nat) (v : Value) : List Slot := (cl1 Ls k).set k (.val v)
def st2 (Ls : List Slot) (k : Nat) (v : Value) : List Slot := ((cl1 Ls k).set k (.val v)).set (k + 1) .second
def entX : List Value → List Slot
  | [] => []
  | v :: vs => if v.category = 2 then .val v :: .second :: entX vs else .val v :: entX vs
def entL (vs : List Value) (n : Nat) : List Slot := entX vs ++ List.replicate (n - (entX vs).length) .unset
theorem WP.unset (n : Nat) : WP (List.replicate n .unset) := fun k => by
  constructor
  · intro h; rw [List.getElem?_replicate] at h; split at h <;> cases h
  · rintro ⟨k', -, w, h, -⟩; rw [List.getElem?_replicate] at h; split at h <;> cases h
theorem WP.cons1 {l : List Slot} {v : Value} (h : WP l) (hv : v.category ≠ 2) : WP (.val v :: l) := fun k => by
  cases k with
  | zero => exact ⟨fun q => by simp at q, fun ⟨k', q, _⟩ => by omega⟩
  | succ k =>
    rw [List.getElem?_cons_succ, h k]
    constructor
    · rintro ⟨k', rfl, w, h1, h2⟩; exact ⟨k' + 1, rfl, w, by rw [List.getElem?_cons_succ]; exact h1, h2⟩
    · rintro ⟨k', e, w, h1, h2⟩
      cases k' with
      | zero => simp at h1; subst h1; exact absurd h2 hv
      | succ k' => exact ⟨k', by omega, w, by rw [List.getElem?_cons_succ] at h1; exact h1, h2⟩
theorem WP.cons2 {l : List Slot} {v : Value} (h : WP l) (hv : v.category = 2) : WP (.val v :: .second :: l) := fun k => by
  match k with
  | 0 => exact ⟨fun q => by simp at q, fun ⟨k', q, _⟩ => by omega⟩
  | 1 => exact ⟨fun _ => ⟨0, rfl, v, rfl, hv⟩, fun _ => rfl⟩
  | k + 2 =>
    rw [List.getElem?_cons_succ, List.getElem?_cons_succ, h k]
    constructor
    · rintro ⟨k', rfl, w, h1, h2⟩; exact ⟨k' + 2, rfl, w, by rw [List.getElem?_cons_succ, List.getElem?_cons_succ]; exact h1, h2⟩
    · rintro ⟨k', e, w, h1, h2⟩
      match k' with
      | 0 => omega
      | 1 => simp at h1
      | k' + 2 => exact ⟨k', by omega, w, by rw [List.getElem?_cons_succ, List.getElem?_cons_succ] at h1; exact h1, h2⟩
theorem entX_wp (vs : List Value) (n : Nat) : WP (entX vs ++ List.replicate n .unset) := by
  induction vs with
  | nil => exact WP.unset n
  | cons v vs ih =>
    by_cases hv : v.category = 2
    · simp only [entX, if_pos hv, List.cons_append]; exact ih.cons2 hv
    · simp only [entX, if_neg hv, List.cons_append]; exact ih.cons1 hv
theorem entX_map (A : Nat → Addr) (vs : List Value) : (entX (vs.map (cv A))).length = (entX vs).length ∧ ∀ (k : Nat) (v : Value) (r : List Slot) , (entX vs ++ r)[k]? = some (.val v) → (∀ j : Nat, r[j]? ≠ some (Slot.val v)) → (entX (vs.map (cv A)) ++ r)[k]? = some (.val (cv A v)) := by
  induction vs with
  | nil => exact ⟨rfl, fun k v r h q => absurd h (by simpa [entX] using q k)⟩
  | cons u vs ih =>
    have e : (cv A u).category = 2 ↔ u.category = 2 := by rw [cv_cat]
    by_cases hv : u.category = 2
    · simp only [List.map_cons, entX, if_pos hv, if_pos (e.mpr hv), List.cons_append, List.length_cons, ih.1, true_and]
      intro k v r h q
      match k with
      | 0 => simp at h ⊢; rw [h]
      | 1 => simp at h
      | k + 2 => rw [List.getElem?_cons_succ, List.getElem?_cons_succ] at h ⊢; exact ih.2 k v r h q
    · simp only [List.map_cons, entX, if_neg hv, if_neg (fun x => hv (e.mp x)), List.cons_append, List.length_cons, ih.1, true_and]
      intro k v r h q
      match k with
      | 0 => simp at h ⊢; rw [h]
      | k + 1 => rw [List.getElem?_cons_succ] at h ⊢; exact ih.2 k v r h q
theorem entL_ok (A : Nat → Addr) (vs : List Value) (n : Nat) : LsOk A (entL vs n) (entL (vs.map (cv A)) n) := by
  refine ⟨by simp only [entL, List.length_append, List.length_replicate, (entX_map A vs).1], entX_wp _ _, fun k v h => ?_⟩
  unfold entL at h ⊢
  rw [(entX_map A vs).1]
  exact (entX_map A vs).2 k v _ h fun j q => by rw [List.getElem?_replicate] at q; split at q <;> cases q
theorem entL_arr (vs : List Value) (n : Nat) : argsToLocals vs.toArray n = (entL vs n).toArray := by
  have key : ∀ (vs : List Value) (acc : Array Slot), vs.foldl (fun acc v => if v.category = 2 then (acc.push (.val v)).push .second else acc.push (.val v)) acc = acc ++ (entX vs).toArray := by
    intro vs
    induction vs with
    | nil => intro acc; simp [entX]
    | cons v vs ih =>
      intro acc
      rw [List.foldl_cons, ih]
      by_cases hv : v.category = 2
      · simp only [entX, if_pos hv]; apply Array.toList_inj.mp; simp
      · simp only [entX, if_neg hv]; apply Array.toList_inj.mp; simp
  unfold argsToLocals entL
  simp only [List.foldl_toArray', key]
  apply Array.toList_inj.mp; simp
theorem cl1_len (Ls : List Slot) (k : Nat) : (cl1 Ls k).length = Ls.length := by
  cases k with
  | zero => rfl
  | succ k => simp only [cl1]; split <;> first | rfl | (split <;> simp)
theorem cl1_val {Ls : List Slot} {k k2 : Nat} {v : Value} (h : (cl1 Ls k)[k2]? = some (.val v)) : Ls[k2]? = some (.val v) ∧ (k = k2 + 1 → v.category ≠ 2) := by
  cases k with
  | zero => exact ⟨h, fun q => by omega⟩
  | succ k =>
    simp only [cl1] at h
    split at h
    · rename_i u hu
      split at h
      · rename_i h2
        rw [List.getElem?_set] at h
        split at h
        · split at h <;> cases h
        · rename_i ne; exact ⟨h, fun q => by omega⟩
      · rename_i h2
        refine ⟨h, fun q => ?_⟩
        have : k = k2 := by omega
        subst this
        rw [hu] at h; cases h; exact h2
    · rename_i hno
      refine ⟨h, fun q => ?_⟩
      have : k = k2 := by omega
      subst this
      exact absurd h (hno v)
/-- what a store leaves at each place -/
theorem am_st1 {A : Nat → Addr} {Ls rl : List Slot} {k : Nat} {v : Value} (L : LsOk A Ls rl) (hk : k < Ls.length) (hv : v.category = 1) : ∃ rl' : List Slot, storeLocals rl.toArray k (cv A v) = some rl'.toArray ∧ LsOk A (st1 Ls k v) rl' := by
  obtain ⟨hl, hw, hc⟩ := L
  have hk' : k < rl.length := by omega
  have hcat : (cv A v).category = 1 := by rw [cv_cat]; exact hv
  have hr : rl[k]? = some rl[k] := List.getElem?_eq_getElem hk'
  have hlen : (st1 Ls k v).length = Ls.length := by simp [st1, cl1_len]
  have hclaim : ∀ (j : Nat) (u : Value), (st1 Ls k v)[j]? = some (.val u) → (j = k ∧ u = v) ∨ (j ≠ k ∧ Ls[j]? = some (.val u) ∧ (k = j + 1 → u.category ≠ 2)) := by
    intro j u h
    unfold st1 at h
    rw [List.getElem?_set] at h
    split at h
    · rename_i e; subst e
      split at h
      · cases h; exact Or.inl ⟨rfl, rfl⟩
      · cases h
    · rename_i ne
      exact Or.inr ⟨fun e => ne e.symm, cl1_val h⟩
  cases hs : rl[k] with
  | unset =>
    rw [hs] at hr
    refine ⟨rl.set k (.val (cv A v)), by simp [storeLocals, storeSelf, setAt, hr, hs, hcat, hk'], by simp [hlen, hl], fun j => ?_, fun j u h => ?_⟩
    · rw [List.getElem?_set]
      constructor
      · intro h
        split at h
        · first | cases h | (split at h <;> cases h)
        · obtain ⟨j', rfl, w, h1, h2⟩ := (hw j).mp h
          exact ⟨j', rfl, w, by rw [List.getElem?_set]; rw [if_neg (fun e => by subst e; rw [hr] at h1; cases h1)]; exact h1, h2⟩
      · rintro ⟨j', rfl, w, h1, h2⟩
        rw [List.getElem?_set] at h1
        split at h1
        · first | (cases h1; omega) | (split at h1 <;> first | (cases h1; omega) | cases h1)
        · rw [if_neg (fun e => by have := (hw (j' + 1)).mpr ⟨j', rfl, w, h1, h2⟩; rw [← e, hr] at this; cases this)]
          exact (hw (j' + 1)).mpr ⟨j', rfl, w, h1, h2⟩
    · rcases hclaim j u h with ⟨rfl, rfl⟩ | ⟨ne, h1, h2⟩
      · rw [List.getElem?_set]; simp [hk']
      · rw [List.getElem?_set, if_neg (fun e => ne e.symm)]; exact hc j u h1
  | second =>
    rw [hs] at hr
    obtain ⟨k', rfl, w0, hw1, hw2⟩ := (hw k).mp hr
    refine ⟨(rl.set k' .unset).set (k' + 1) (.val (cv A v)), by simp [storeLocals, storeSelf, setAt, hr, hs, hcat, hk', show k' < rl.length by omega], by simp [hlen, hl], fun j => ?_, fun j u h => ?_⟩
    · rw [List.getElem?_set, List.getElem?_set, List.length_set]
      constructor
      · intro h
        split at h
        · first | cases h | (split at h <;> cases h)
        · rename_i n1
          split at h
          · first | cases h | (split at h <;> cases h)
          · rename_i n2
            obtain ⟨j', rfl, w, h1, h2⟩ := (hw j).mp h
            refine ⟨j', rfl, w, ?_, h2⟩
            rw [List.getElem?_set, List.getElem?_set]
            rw [if_neg (fun e => by subst e; rw [hr] at h1; cases h1), if_neg (fun e => by omega)]; exact h1
      · rintro ⟨j', rfl, w, h1, h2⟩
        rw [List.getElem?_set, List.getElem?_set, List.length_set] at h1
        split at h1
        · first | (cases h1; omega) | (split at h1 <;> first | (cases h1; omega) | cases h1)
        · rename_i n1
          split at h1
          · first | cases h1 | (split at h1 <;> cases h1)
          · rename_i n2
            have q := (hw (j' + 1)).mpr ⟨j', rfl, w, h1, h2⟩
            rw [if_neg (fun e => by omega), if_neg (fun e => by
              have : rl[k']? = some .second := by rw [e]; exact q
              rw [hw1] at this; cases this)]
            exact q
    · rcases hclaim j u h with ⟨rfl, rfl⟩ | ⟨ne, h1, h2⟩
      · rw [List.getElem?_set]; simp [hk']
      · rw [List.getElem?_set, if_neg (fun e => ne e.symm), List.getElem?_set]
        by_cases e : k' = j
        · subst e
          have := hc k' u h1
          rw [hw1] at this; cases this
          rw [cv_cat] at hw2
          exact absurd hw2 (h2 rfl)
        · rw [if_neg e]; exact hc j u h1
  | val r =>
    rw [hs] at hr
    by_cases hr2 : r.category = 2
    · have hsec : rl[k + 1]? = some .second := (hw (k + 1)).mpr ⟨k, rfl, r, hr, hr2⟩
      have hk1 : k + 1 < rl.length := (List.getElem?_eq_some_iff.mp hsec).1
      refine ⟨(rl.set (k + 1) .unset).set k (.val (cv A v)), by simp [storeLocals, storeSelf, setAt, hr, hs, hr2, hcat, hk', hk1], by simp [hlen, hl], fun j => ?_, fun j u h => ?_⟩
      · rw [List.getElem?_set, List.getElem?_set, List.length_set]
        constructor
        · intro h
          split at h
          · first | cases h | (split at h <;> cases h)
          · rename_i n1
            split at h
            · first | cases h | (split at h <;> cases h)
            · rename_i n2
              obtain ⟨j', rfl, w, h1, h2⟩ := (hw j).mp h
              refine ⟨j', rfl, w, ?_, h2⟩
              rw [List.getElem?_set, List.getElem?_set]
              rw [if_neg (fun e => by omega), if_neg (fun e => by rw [← e, hsec] at h1; cases h1)]; exact h1
        · rintro ⟨j', rfl, w, h1, h2⟩
          rw [List.getElem?_set, List.getElem?_set, List.length_set] at h1
          split at h1
          · first | (cases h1; omega) | (split at h1 <;> first | (cases h1; omega) | cases h1)
          · rename_i n1
            split at h1
            · first | cases h1 | (split at h1 <;> cases h1)
            · rename_i n2
              have q := (hw (j' + 1)).mpr ⟨j', rfl, w, h1, h2⟩
              rw [if_neg (fun e => by rw [← e, hr] at q; cases q), if_neg (fun e => by omega)]
              exact q
      · rcases hclaim j u h with ⟨rfl, rfl⟩ | ⟨ne, h1, h2⟩
        · rw [List.getElem?_set]; simp [hk']
        · rw [List.getElem?_set, if_neg (fun e => ne e.symm), List.getElem?_set]
          by_cases e : k + 1 = j
          · subst e
            have := hc _ u h1
            rw [hsec] at this; cases this
          · rw [if_neg e]; exact hc j u h1
    · refine ⟨rl.set k (.val (cv A v)), by simp [storeLocals, storeSelf, setAt, hr, hs, hr2, hcat, hk'], by simp [hlen, hl], fun j => ?_, fun j u h => ?_⟩
      · rw [List.getElem?_set]
        constructor
        · intro h
          split at h
          · first | cases h | (split at h <;> cases h)
          · obtain ⟨j', rfl, w, h1, h2⟩ := (hw j).mp h
            exact ⟨j', rfl, w, by rw [List.getElem?_set]; rw [if_neg (fun e => by subst e; rw [hr] at h1; cases h1; exact hr2 h2)]; exact h1, h2⟩
        · rintro ⟨j', rfl, w, h1, h2⟩
          rw [List.getElem?_set] at h1
          split at h1
          · first | (cases h1; omega) | (split at h1 <;> first | (cases h1; omega) | cases h1)
          · rw [if_neg (fun e => by have := (hw (j' + 1)).mpr ⟨j', rfl, w, h1, h2⟩; rw [← e, hr] at this; cases this)]
            exact (hw (j' + 1)).mpr ⟨j', rfl, w, h1, h2⟩
      · rcases hclaim j u h with ⟨rfl, rfl⟩ | ⟨ne, h1, h2⟩
        · rw [List.getElem?_set]; simp [hk']
        · rw [List.getElem?_set, if_neg (fun e => ne e.symm)]; exact hc j u h1
theorem wp2 {rl rl' : List Slot} {k : Nat} {v : Value} (hw : WP rl) (hv : v.category = 2) (h0 : rl'[k]? = some (.val v)) (h1 : rl'[k + 1]? = some .second)
    (hj : ∀ j, j ≠ k → j ≠ k + 1 → (rl'[j]? = rl[j]? ∧ ¬ (j + 1 = k ∧ rl[k]? = some .second) ∧ ¬ (j = k + 2 ∧ ∃ u : Value, rl[k + 1]? = some (.val u) ∧ u.category = 2)) ∨ (rl'[j]? = some .unset ∧ ((j + 1 = k ∧ rl[k]? = some .second) ∨ (j = k + 2 ∧ ∃ u : Value, rl[k + 1]? = some (.val u) ∧ u.category = 2)))) : WP rl' := fun j => by
  constructor
  · intro h
    by_cases e1 : j = k
    · subst e1; rw [h0] at h; cases h
    by_cases e2 : j = k + 1
    · exact ⟨k, e2, v, h0, hv⟩
    rcases hj j e1 e2 with ⟨q, n1, n2⟩ | ⟨q, -⟩
    · rw [q] at h
      obtain ⟨j', rfl, w, a1, a2⟩ := (hw j).mp h
      refine ⟨j', rfl, w, ?_, a2⟩
      have d1 : j' ≠ k := fun e => e2 (by omega)
      have d2 : j' ≠ k + 1 := fun e => n2 ⟨by omega, w, by rw [← e]; exact a1, a2⟩
      rcases hj j' d1 d2 with ⟨q', -⟩ | ⟨-, ⟨z1, z2⟩ | ⟨z1, u, z2, z3⟩⟩
      · rw [q']; exact a1
      · exact absurd z1 e1
      · have := (hw (k + 2)).mpr ⟨k + 1, rfl, u, z2, z3⟩
        rw [← z1, a1] at this; cases this
    · rw [q] at h; cases h
  · rintro ⟨j', rfl, w, a1, a2⟩
    by_cases e1 : j' = k
    · subst e1; exact h1
    by_cases e2 : j' = k + 1
    · subst e2; rw [h1] at a1; cases a1
    rcases hj j' e1 e2 with ⟨q, n1, n2⟩ | ⟨q, -⟩
    · rw [q] at a1
      have s := (hw (j' + 1)).mpr ⟨j', rfl, w, a1, a2⟩
      have d1 : j' + 1 ≠ k := fun e => n1 ⟨e, by rw [← e]; exact s⟩
      have d2 : j' + 1 ≠ k + 1 := fun e => e1 (by omega)
      rcases hj (j' + 1) d1 d2 with ⟨q', -⟩ | ⟨-, ⟨z1, z2⟩ | ⟨z1, -⟩⟩
      · rw [q']; exact s
      · obtain ⟨k', y1, w', y2, y3⟩ := (hw k).mp z2
        have : k' = j' + 1 := by omega
        subst this
        rw [s] at y2; cases y2
      · exact absurd (by omega) e2
    · rw [q] at a1; cases a1
theorem am_st2 {A : Nat → Addr} {Ls rl : List Slot} {k : Nat} {v : Value} (L : LsOk A Ls rl) (hk : k + 1 < Ls.length) (hv : v.category = 2) : ∃ rl' : List Slot, storeLocals rl.toArray k (cv A v) = some rl'.toArray ∧ LsOk A (st2 Ls k v) rl' := by
  obtain ⟨hl, hw, hc⟩ := L
  have hk' : k < rl.length := by omega
  have hk1 : k + 1 < rl.length := by omega
  have hcat : (cv A v).category = 2 := by rw [cv_cat]; exact hv
  have hr : rl[k]? = some rl[k] := List.getElem?_eq_getElem hk'
  have hr1 : rl[k + 1]? = some rl[k + 1] := List.getElem?_eq_getElem hk1
  have hlen : (st2 Ls k v).length = Ls.length := by simp [st2, cl1_len]
  have fin : ∀ rl' : List Slot, rl'.length = rl.length → rl'[k]? = some (.val (cv A v)) → rl'[k + 1]? = some .second →
      (∀ j, j ≠ k → j ≠ k + 1 → (rl'[j]? = rl[j]? ∧ ¬ (j + 1 = k ∧ rl[k]? = some .second) ∧ ¬ (j = k + 2 ∧ ∃ u : Value, rl[k + 1]? = some (.val u) ∧ u.category = 2)) ∨ (rl'[j]? = some .unset ∧ ((j + 1 = k ∧ rl[k]? = some .second) ∨ (j = k + 2 ∧ ∃ u : Value, rl[k + 1]? = some (.val u) ∧ u.category = 2)))) → LsOk A (st2 Ls k v) rl' := by
    intro rl' e0 h0 h1 hj
    refine ⟨by omega, wp2 hw hcat h0 h1 hj, fun j u h => ?_⟩
    unfold st2 at h
    rw [List.getElem?_set] at h
    split at h
    · first | cases h | (split at h <;> cases h)
    · rename_i n2
      rw [List.getElem?_set] at h
      split at h
      · rename_i e; subst e
        split at h
        · cases h; exact h0
        · cases h
      · rename_i n1
        obtain ⟨a1, a2⟩ := cl1_val h
        have a3 := hc j u a1
        rcases hj j (fun e => n1 e.symm) (fun e => n2 e.symm) with ⟨q, -⟩ | ⟨-, ⟨z1, z2⟩ | ⟨z1, y, z2, z3⟩⟩
        · rw [q]; exact a3
        · obtain ⟨k', y1, w', y2, y3⟩ := (hw k).mp z2
          have : k' = j := by omega
          subst this
          rw [a3] at y2; cases y2
          rw [cv_cat] at y3
          exact absurd y3 (a2 y1)
        · have := (hw (k + 2)).mpr ⟨k + 1, rfl, y, z2, z3⟩
          rw [← z1, a3] at this; cases this
  by_cases c2 : ∃ u : Value, rl[k + 1]? = some (.val u) ∧ u.category = 2
  · obtain ⟨u, u1, u2⟩ := c2
    have hs1 : rl[k + 1] = .val u := by rw [u1] at hr1; exact (Option.some.inj hr1).symm
    have h3 : rl[k + 2]? = some .second := (hw (k + 2)).mpr ⟨k + 1, rfl, u, u1, u2⟩
    have hk2 : k + 2 < rl.length := (List.getElem?_eq_some_iff.mp h3).1
    cases hs : rl[k] with
    | unset =>
      rw [hs] at hr
      refine ⟨((rl.set k (.val (cv A v))).set (k + 2) .unset).set (k + 1) .second, by simp [storeLocals, storeSelf, setAt, hr, hs, hcat, hk', hk1, hk2, u1, u2, hs1], fin _ (by simp) (by simp [List.getElem?_set, hk']) (by simp [List.getElem?_set, hk1]) fun j n1 n2 => ?_⟩
      by_cases e : j = k + 2
      · subst e; exact Or.inr ⟨by simp [List.getElem?_set, hk2], Or.inr ⟨rfl, u, u1, u2⟩⟩
      · exact Or.inl ⟨by simp [List.getElem?_set, Ne.symm n1, Ne.symm n2, Ne.symm e], fun q => (by rw [hr] at q; cases q.2), fun q => e q.1⟩
    | second =>
      rw [hs] at hr
      obtain ⟨k', rfl, w0, hw1, hw2⟩ := (hw k).mp hr
      have ev : ∀ l1 : List Slot, l1.length = rl.length → l1[k' + 1 + 1]? = some (.val u) → storeSelf l1.toArray (k' + 1) (cv A v) = some (((l1.set (k' + 1) (.val (cv A v))).set (k' + 1 + 2) .unset).set (k' + 1 + 1) .second).toArray := by
        intro l1 e1 e2
        have a1 : k' + 1 < l1.length := by omega
        have a2 : k' + 1 + 1 < l1.length := by omega
        have a3 : k' + 1 + 2 < l1.length := by omega
        have a4 : l1[k' + 1 + 1] = .val u := by rw [List.getElem?_eq_getElem a2] at e2; exact Option.some.inj e2
        simp [storeSelf, setAt, hcat, a1, a2, a3, a4, u2]
      have hk0 : k' < rl.length := by omega
      refine ⟨(((rl.set k' .unset).set (k' + 1) (.val (cv A v))).set (k' + 1 + 2) .unset).set (k' + 1 + 1) .second, by
        simp only [storeLocals, List.getElem?_toArray, hr, Option.bind_eq_bind, Option.bind_some, setAt, List.size_toArray, Nat.add_sub_cancel, if_pos hk0, List.setIfInBounds_toArray]
        exact ev _ (by simp) (by rw [List.getElem?_set, if_neg (by omega)]; exact u1), fin _ (by simp) (by simp [List.getElem?_set, hk']) (by simp [List.getElem?_set, hk1]) fun j n1 n2 => ?_⟩
      by_cases e : j = k' + 1 + 2
      · subst e; exact Or.inr ⟨by simp [List.getElem?_set, hk2], Or.inr ⟨rfl, u, u1, u2⟩⟩
      by_cases e' : j = k'
      · subst e'; exact Or.inr ⟨by rw [List.getElem?_set, if_neg (by omega), List.getElem?_set, if_neg (by omega), List.getElem?_set, if_neg (by omega), List.getElem?_set, if_pos rfl, if_pos hk0], Or.inl ⟨rfl, hr⟩⟩
      · exact Or.inl ⟨by simp [List.getElem?_set, Ne.symm n1, Ne.symm n2, Ne.symm e, Ne.symm e'], fun q => e' (by omega), fun q => e q.1⟩
    | val r =>
      rw [hs] at hr
      have hr2 : r.category ≠ 2 := fun q => by
        have := (hw (k + 1)).mpr ⟨k, rfl, r, hr, q⟩
        rw [u1] at this; cases this
      refine ⟨((rl.set k (.val (cv A v))).set (k + 2) .unset).set (k + 1) .second, by simp [storeLocals, storeSelf, setAt, hr, hs, hcat, hk', hk1, hk2, u1, u2, hs1, hr2], fin _ (by simp) (by simp [List.getElem?_set, hk']) (by simp [List.getElem?_set, hk1]) fun j n1 n2 => ?_⟩
      by_cases e : j = k + 2
      · subst e; exact Or.inr ⟨by simp [List.getElem?_set, hk2], Or.inr ⟨rfl, u, u1, u2⟩⟩
      · exact Or.inl ⟨by simp [List.getElem?_set, Ne.symm n1, Ne.symm n2, Ne.symm e], fun q => (by rw [hr] at q; cases q.2), fun q => e q.1⟩
  · have hself : ∀ l1 : List Slot, l1.length = rl.length → (∀ u : Value, l1[k + 1]? = some (.val u) → u.category ≠ 2) → storeSelf l1.toArray k (cv A v) = some ((l1.set k (.val (cv A v))).set (k + 1) .second).toArray := by
      intro l1 e1 e2
      have a1 : k < l1.length := by omega
      have a2 : k + 1 < l1.length := by omega
      have a3 : l1[k + 1]? = some l1[k + 1] := List.getElem?_eq_getElem a2
      cases hq : l1[k + 1] with
      | unset => simp [storeSelf, setAt, hcat, a1, a2, hq]
      | second => simp [storeSelf, setAt, hcat, a1, a2, hq]
      | val y =>
        have : y.category ≠ 2 := e2 y (by rw [a3, hq])
        simp [storeSelf, setAt, hcat, a1, a2, hq, this]
    have hno : ∀ u : Value, rl[k + 1]? = some (.val u) → u.category ≠ 2 := fun u h1 h2 => c2 ⟨u, h1, h2⟩
    cases hs : rl[k] with
    | unset =>
      rw [hs] at hr
      refine ⟨(rl.set k (.val (cv A v))).set (k + 1) .second, by simp only [storeLocals, List.getElem?_toArray, hr, Option.bind_eq_bind, Option.bind_some]; exact hself rl rfl hno, fin _ (by simp) (by simp [List.getElem?_set, hk']) (by simp [List.getElem?_set, hk1]) fun j n1 n2 => ?_⟩
      exact Or.inl ⟨by simp [List.getElem?_set, Ne.symm n1, Ne.symm n2], fun q => (by rw [hr] at q; cases q.2), fun q => c2 q.2⟩
    | second =>
      rw [hs] at hr
      obtain ⟨k', rfl, w0, hw1, hw2⟩ := (hw k).mp hr
      have hk0 : k' < rl.length := by omega
      refine ⟨((rl.set k' .unset).set (k' + 1) (.val (cv A v))).set (k' + 1 + 1) .second, ?_, fin _ (by simp) (by simp [List.getElem?_set, hk']) (by simp [List.getElem?_set, hk1]) fun j n1 n2 => ?_⟩
      · have := hself (rl.set k' .unset) (by simp) (fun u h => hno u (by rw [List.getElem?_set, if_neg (by omega)] at h; exact h))
        simp only [storeLocals, List.getElem?_toArray, hr, Option.bind_eq_bind, Option.bind_some, setAt, List.size_toArray, Nat.add_sub_cancel, if_pos hk0, List.setIfInBounds_toArray]
        exact this
      · by_cases e' : j = k'
        · subst e'; exact Or.inr ⟨by rw [List.getElem?_set, if_neg (by omega), List.getElem?_set, if_neg (by omega), List.getElem?_set, if_pos rfl, if_pos hk0], Or.inl ⟨rfl, hr⟩⟩
        · exact Or.inl ⟨by simp [List.getElem?_set, Ne.symm n1, Ne.symm n2, Ne.symm e'], fun q => e' (by omega), fun q => c2 q.2⟩
    | val r =>
      rw [hs] at hr
      by_cases hr2 : r.category = 2
      · refine ⟨(rl.set k (.val (cv A v))).set (k + 1) .second, ?_, fin _ (by simp) (by simp [List.getElem?_set, hk']) (by simp [List.getElem?_set, hk1]) fun j n1 n2 => ?_⟩
        · have := hself (rl.set (k + 1) .unset) (by simp) (fun u h => by rw [List.getElem?_set, if_pos rfl] at h; split at h <;> cases h)
          simp only [storeLocals, List.getElem?_toArray, hr, Option.bind_eq_bind, Option.bind_some, if_pos hr2, setAt, List.size_toArray, if_pos hk1, List.setIfInBounds_toArray]
          rw [this]
          congr 2
          apply List.ext_getElem?
          intro j
          simp only [List.getElem?_set, List.length_set]
          by_cases e : k + 1 = j
          · simp [e]
          · simp [e]
        · exact Or.inl ⟨by simp [List.getElem?_set, Ne.symm n1, Ne.symm n2], fun q => (by rw [hr] at q; cases q.2), fun q => c2 q.2⟩
      · refine ⟨(rl.set k (.val (cv A v))).set (k + 1) .second, by simp only [storeLocals, List.getElem?_toArray, hr, Option.bind_eq_bind, Option.bind_some, if_neg hr2]; exact hself rl rfl hno, fin _ (by simp) (by simp [List.getElem?_set, hk']) (by simp [List.getElem?_set, hk1]) fun j n1 n2 => ?_⟩
        exact Or.inl ⟨by simp [List.getElem?_set, Ne.symm n1, Ne.symm n2], fun q => (by rw [hr] at q; cases q.2), fun q => c2 q.2⟩

def Cx (p : Program) (s : State) (m : MethodId) (meth : Method) (c : Code) (Z : State) (own : String) (bytes : ByteArray) (maxL : Nat) (ret : Option FieldType) (mn : String) : Prop :=
  p.tables.exec = Jvm.exec ∧ Z.Warmed39 s.vm ∧ c.code = bytes ∧ s.vm.findClass own = some m.cls ∧ c.maxLocals = maxL ∧ meth.sig.returnType = ret ∧ meth.locks = false ∧ meth.name = mn
def OkR (p : Program) (l : Launch) (e : Env) (R : Room) (s : State) (m : MethodId) (args : Array Value) (below : List Frame) (meth : Method) (c : Code) (Z : State) (C : String) (fs : FS) (n0 : Nat) (h0 : Heap) {α : Type} (F : α → Option Value → Heap → Prop) (A : Nat → Addr) (w : Nat → Option CD) (cells slots pc : Nat) (Ls : List Slot) (St : List Value) (σ : Sg) (t : Option α) : Prop :=
  ∀ x, t = some x → ∀ (T : State) (locs : List Loc) (rl : List Slot), Stand p l e R s m args below meth c T locs cells slots → Wd Z C fs T.heap A w σ → Out h0 T.heap A w → Nw n0 A w → Fr n0 locs → LsOk A Ls rl →
    ∃ (s₂ : State) (o : Outcome), Steps p.tables e below (T.setTop (mkF m pc rl.toArray (St.map (cv A)))) s₂ ∧ s₂.status = .running ∧ Ended s₂ below o ∧ ∃ (v : Option Value) (L : List Loc), o = .returned v ∧ (F x v s₂.heap ∧ Fr n0 L) ∧ FrameEnd s o s₂ L R.cells R.slots
def lkp {β : Type} : List (Nat × β) → Nat → Option β
  | [], _ => none
  | (a, b) :: r, k => if a = k then some b else lkp r k
theorem lkp_mem {β : Type} : ∀ {l : List (Nat × β)} {k : Nat} {b : β}, lkp l k = some b → (k, b) ∈ l
  | (a, b') :: r, k, b, h => by
    unfold lkp at h
    split at h
    · rename_i e; subst e; cases h; exact List.mem_cons_self
    · exact List.mem_cons_of_mem _ (lkp_mem h)
def ilen : Instr → Nat
  | .bipush _ => 2
  | .sipush _ => 3
  | .ldc _ => 2
  | .ldc2_w _ => 3
  | .iload _ => 2
  | .lload _ => 2
  | .aload _ => 2
  | .istore _ => 2
  | .lstore _ => 2
  | .astore _ => 2
  | .iinc _ _ => 3
  | .getfield _ => 3
  | .putfield _ => 3
  | .goto _ => 3
  | _ => 1
def npc (pc : Nat) : Instr → Nat
  | .goto o => ((pc : Int) + o).toNat
  | i => pc + ilen i
def jok (pc : Nat) : Instr → Bool
  | .goto o => decide (0 ≤ (pc : Int) + o)
  | _ => true
def ic : Int → Int32
  | .negSucc 0 => -1
  | k => Int32.ofInt k
theorem ic_eq (k : Int) : ic k = Int32.ofInt k := by
  unfold ic; split <;> rfl
theorem x_sipush {tb : Tables} [Ours tb] {e : Env} {below : List Frame} {T target : State} {m : MethodId} {c : Code} {g : JFrame} (h : At T m c below) (hx : tb.exec = Jvm.exec) (hg : g.method = m) {i : Int} (hd : decode c.code g.pc = .ok (.sipush i, 3))
    (hr : Steps tb e below (T.setTop { g with pc := g.pc + 3, stack := .int (Int16.ofInt i).toInt32 :: g.stack }) target) : Steps tb e below (T.setTop g) target := by
  subst hg
  jvm_step h [h.top, hx, hd]
  exact hr
def ev1 (w : Nat → Option CD) (fs : FS) (fl pfl : List (Nat × Nat)) (kI : List (Nat × Int32)) (kJ : List (Nat × Int64)) (i : Instr) (Ls : List Slot) (St : List Value) (σ : Sg) : Option (List Slot × List Value × Sg) :=
  match i with
  | .iadd => match St with
    | .int y :: .int x :: r => some (Ls, .int (x + y) :: r, σ)
    | _ => none
  | .isub => match St with
    | .int y :: .int x :: r => some (Ls, .int (x - y) :: r, σ)
    | _ => none
  | .imul => match St with
    | .int y :: .int x :: r => some (Ls, .int (x * y) :: r, σ)
    | _ => none
  | .iand => match St with
    | .int y :: .int x :: r => some (Ls, .int (x &&& y) :: r, σ)
    | _ => none
  | .ior => match St with
    | .int y :: .int x :: r => some (Ls, .int (x ||| y) :: r, σ)
    | _ => none
  | .ixor => match St with
    | .int y :: .int x :: r => some (Ls, .int (x ^^^ y) :: r, σ)
    | _ => none
  | .ishl => match St with
    | .int y :: .int x :: r => some (Ls, .int (x <<< (y &&& 31)) :: r, σ)
    | _ => none
  | .ishr => match St with
    | .int y :: .int x :: r => some (Ls, .int (x >>> (y &&& 31)) :: r, σ)
    | _ => none
  | .iushr => match St with
    | .int y :: .int x :: r => some (Ls, .int (XT.ushr x y) :: r, σ)
    | _ => none
  | .ladd => match St with
    | .long y :: .long x :: r => some (Ls, .long (x + y) :: r, σ)
    | _ => none
  | .lsub => match St with
    | .long y :: .long x :: r => some (Ls, .long (x - y) :: r, σ)
    | _ => none
  | .lmul => match St with
    | .long y :: .long x :: r => some (Ls, .long (x * y) :: r, σ)
    | _ => none
  | .land => match St with
    | .long y :: .long x :: r => some (Ls, .long (x &&& y) :: r, σ)
    | _ => none
  | .lor => match St with
    | .long y :: .long x :: r => some (Ls, .long (x ||| y) :: r, σ)
    | _ => none
  | .lxor => match St with
    | .long y :: .long x :: r => some (Ls, .long (x ^^^ y) :: r, σ)
    | _ => none
  | .lshl => match St with
    | .int y :: .long x :: r => some (Ls, .long (x <<< (y.toInt64 &&& 63)) :: r, σ)
    | _ => none
  | .lushr => match St with
    | .int y :: .long x :: r => some (Ls, .long (XT.ushrL x y) :: r, σ)
    | _ => none
  | .lshr => match St with
    | .int y :: .long x :: r => some (Ls, .long (x >>> (y.toInt64 &&& 63)) :: r, σ)
    | _ => none
  | .lcmp => match St with
    | .long y :: .long x :: r => some (Ls, .int (XT.cmpL x y) :: r, σ)
    | _ => none
  | .ineg => match St with
    | .int x :: r => some (Ls, .int (-x) :: r, σ)
    | _ => none
  | .lneg => match St with
    | .long x :: r => some (Ls, .long (-x) :: r, σ)
    | _ => none
  | .i2l => match St with
    | .int x :: r => some (Ls, .long (x.toInt64) :: r, σ)
    | _ => none
  | .l2i => match St with
    | .long x :: r => some (Ls, .int (x.toInt32) :: r, σ)
    | _ => none
  | .i2b => match St with
    | .int x :: r => some (Ls, .int (x.toInt8.toInt32) :: r, σ)
    | _ => none
  | .iconst k => some (Ls, .int (ic k) :: St, σ)
  | .bipush k => some (Ls, .int (Int8.ofInt k).toInt32 :: St, σ)
  | .sipush k => some (Ls, .int (Int16.ofInt k).toInt32 :: St, σ)
  | .lconst k => some (Ls, .long (Int64.ofNat k) :: St, σ)
  | .ldc i => match lkp kI i with
    | some v => some (Ls, .int v :: St, σ)
    | none => none
  | .ldc2_w i => match lkp kJ i with
    | some v => some (Ls, .long v :: St, σ)
    | none => none
  | .iload_n k => match Ls[k.val]? with
    | some (.val (.int v)) => some (Ls, .int v :: St, σ)
    | _ => none
  | .iload k => match Ls[k]? with
    | some (.val (.int v)) => some (Ls, .int v :: St, σ)
    | _ => none
  | .lload_n k => match Ls[k.val]? with
    | some (.val (.long v)) => some (Ls, .long v :: St, σ)
    | _ => none
  | .lload k => match Ls[k]? with
    | some (.val (.long v)) => some (Ls, .long v :: St, σ)
    | _ => none
  | .aload_n k => match Ls[k.val]? with
    | some (.val (.ref v)) => some (Ls, .ref v :: St, σ)
    | _ => none
  | .aload k => match Ls[k]? with
    | some (.val (.ref v)) => some (Ls, .ref v :: St, σ)
    | _ => none
  | .istore_n k => match St with
    | .int v :: r => if k.val < Ls.length then some (st1 Ls k.val (.int v), r, σ) else none
    | _ => none
  | .istore k => match St with
    | .int v :: r => if k < Ls.length then some (st1 Ls k (.int v), r, σ) else none
    | _ => none
  | .astore_n k => match St with
    | .ref v :: r => if k.val < Ls.length then some (st1 Ls k.val (.ref v), r, σ) else none
    | _ => none
  | .astore k => match St with
    | .ref v :: r => if k < Ls.length then some (st1 Ls k (.ref v), r, σ) else none
    | _ => none
  | .lstore_n k => match St with
    | .long v :: r => if k.val + 1 < Ls.length then some (st2 Ls k.val (.long v), r, σ) else none
    | _ => none
  | .lstore k => match St with
    | .long v :: r => if k + 1 < Ls.length then some (st2 Ls k (.long v), r, σ) else none
    | _ => none
  | .iinc k c => match Ls[k]? with
    | some (.val (.int v)) => if k < Ls.length then some (st1 Ls k (.int (v + ic c)), St, σ) else none
    | _ => none
  | .dup => match St with
    | .ref v :: r => some (Ls, .ref v :: .ref v :: r, σ)
    | .int v :: r => some (Ls, .int v :: .int v :: r, σ)
    | _ => none
  | .pop => match St with
    | .int v :: r => some (Ls, r, σ)
    | _ => none
  | .goto _ => some (Ls, St, σ)
  | .getfield i => match St with
    | .ref k :: r => match w k with
      | some (.inl q) => match lkp fl i with
        | some j => match fs[j]? with
          | some (_, _, cd) => some (Ls, fv σ k j q cd :: r, σ)
          | none => none
        | none => none
      | _ => none
    | _ => none
  | .putfield i => match St with
    | .int x :: .ref k :: r => match w k with
      | some (.inl _) => match lkp pfl i with
        | some j => match fs[j]? with
          | some (_, _, 0) => some (Ls, r, si σ k j x)
          | _ => none
        | none => none
      | _ => none
    | .long x :: .ref k :: r => match w k with
      | some (.inl _) => match lkp pfl i with
        | some j => match fs[j]? with
          | some (_, _, 1) => some (Ls, r, sj σ k j x)
          | _ => none
        | none => none
      | _ => none
    | _ => none
  | _ => none

def FsOk (Z : State) (a0 : Array Value) (C : String) (fs : FS) : Prop := ∀ (j : Nat) (n d : String) (cd : Nat), fs[j]? = some (n, d, cd) → Laid Z a0 C C n d ∧ (∃ ty, parseFieldDescriptor d = some ty ∧ (cd = 0 → ty = .int) ∧ (cd = 1 → ty = .long) ∧ (2 ≤ cd → ∃ t, ty = .array t)) ∧ ∀ (j' : Nat) (n' d' : String) (cd' : Nat), fs[j']? = some (n', d', cd') → n = n' → j = j'
def Lay1 (Z : State) (a0 : Array Value) (C own mn n d : String) : Prop := (Cond.lays C C n d).before a0 Z = true ∨ ((Cond.laysFinal C C n d).before a0 Z = true ∧ own = C ∧ mn = "<init>")
def Tab (Z : State) (a0 : Array Value) (C own mn : String) (fs : FS) (fl pfl : List (Nat × Nat)) (kI : List (Nat × Int32)) (kJ : List (Nat × Int64)) : Prop :=
  (∀ x ∈ fl, ∃ n d cd, fs[x.2]? = some (n, d, cd) ∧ (Cond.fieldLink own x.1 C n d).before a0 Z = true) ∧ (∀ x ∈ pfl, ∃ n d cd, fs[x.2]? = some (n, d, cd) ∧ (Cond.fieldLink own x.1 C n d).before a0 Z = true ∧ Lay1 Z a0 C own mn n d) ∧
  (∀ x ∈ kI, (Cond.constant own x.1 x.2).before a0 Z = true) ∧ ∀ x ∈ kJ, (Cond.constantLong own x.1 x.2).before a0 Z = true
section AM
variable {p : Program} {l : Launch} {e : Env} {R : Room} {s : State} {m : MethodId} {args : Array Value} {below : List Frame} {meth : Method} {c : Code} {Z : State} {a0 : Array Value} {C own : String} {bytes : ByteArray} {maxL : Nat} {ret : Option FieldType} {mn : String} {fs : FS} {fl pfl : List (Nat × Nat)} {kI : List (Nat × Int32)} {kJ : List (Nat × Int64)} {n0 kk : Nat} {h0 : Heap} {α : Type} {F : α → Option Value → Heap → Prop} {A : Nat → Addr} {w : Nat → Option CD} {cells slots pc : Nat} {Ls Ls' : List Slot} {St St' : List Value} {σ σ' : Sg} {t : Option α}
theorem am_ld {rl : List Slot} (L : LsOk A Ls rl) {k : Nat} {v : Value} (h : Ls[k]? = some (.val v)) : rl.toArray[k]? = some (.val (cv A v)) := by
  rw [List.getElem?_toArray]; exact L.2.2 k v h
theorem am_none (h : t = none) : OkR p l e R s m args below meth c Z C fs n0 h0 F A w cells slots pc Ls St σ t := fun x hx => by rw [h] at hx; cases hx
/-- one place of cell k is written -/
theorem Wd.write {h h' : Heap} {k sl : Nat} {v : Value} {d : CD} (W : Wd Z C fs h A w σ) (hk : w k = some d) (Q : Wr h h' (A k) sl v) (hσ : ∀ k', k' ≠ k → ∀ i, gi σ' k' i = gi σ k' i ∧ gj σ' k' i = gj σ k' i) (hok : CellOk Z C fs h' A σ' k d) : Wd Z C fs h' A w σ' := by
  refine ⟨fun k' d' hk' => ?_, W.2⟩
  by_cases ek : k' = k
  · subst ek; rw [hk] at hk'; cases hk'; exact hok
  · have ne : A k' ≠ A k := fun q => ek (W.2 _ _ _ _ hk' hk q)
    have := W.1 k' d' hk'
    rcases d' with q | ⟨ty, n, o⟩
    · refine ⟨this.1.wr Q, fun j n d cd hj => ?_⟩
      have e1 : fv σ' k' j q cd = fv σ k' j q cd := by
        match cd with
        | 0 => simp only [fv, (hσ k' ek j).1]
        | 1 => simp only [fv, (hσ k' ek j).2]
        | r + 2 => rfl
      rw [e1]
      exact (this.2 j n d cd hj).other Q (Or.inl ne)
    · obtain ⟨cl, a1, a2, a3⟩ := this
      refine ⟨cl, a1.other Q ne, a2, fun i hi => ?_⟩
      have e1 : aeo σ' k' i ty o = aeo σ k' i ty o := by
        cases o with
        | none => cases ty <;> simp only [aeo, ae, (hσ k' ek i).1, (hσ k' ek i).2]
        | some f => rfl
      rw [e1]; exact a3 i hi
theorem Out.write {h h' : Heap} {k sl : Nat} {v : Value} {d : CD} (O : Out h0 h A w) (hk : w k = some d) (hd : wrb d = true) (Q : Wr h h' (A k) sl v) : Out h0 h' A w := by
  refine ⟨by rw [Q.size]; exact O.1, fun b c hb hn => ?_⟩
  obtain ⟨cb, e1, -, -, -, e5, -⟩ := wr_at Q (O.2 b c hb hn)
  rw [← e5 (hn k d hk hd).symm]; exact e1
theorem si_off (σ : Sg) (k j : Nat) (x : Int32) : ∀ k', k' ≠ k → ∀ i, gi (si σ k j x) k' i = gi σ k' i ∧ gj (si σ k j x) k' i = gj σ k' i := fun k' ne i => ⟨by rw [gi_si, if_neg (fun q => ne q.1)], rfl⟩
theorem sj_off (σ : Sg) (k j : Nat) (x : Int64) : ∀ k', k' ≠ k → ∀ i, gi (sj σ k j x) k' i = gi σ k' i ∧ gj (sj σ k j x) k' i = gj σ k' i := fun k' ne i => ⟨rfl, by rw [gj_sj, if_neg (fun q => ne q.1)]⟩
theorem am_getf (hc : Cx p s m meth c Z own bytes maxL ret mn) {k q j i cd : Nat} {n d : String} (hk : w k = some (.inl q)) (hfs : fs[j]? = some (n, d, cd)) (wl : (Cond.fieldLink own i C n d).before a0 Z = true) (hd : decode bytes pc = .ok (.getfield i, 3))
    (κ : OkR p l e R s m args below meth c Z C fs n0 h0 F A w cells slots (pc + 3) Ls (fv σ k j q cd :: St) σ t) : OkR p l e R s m args below meth c Z C fs n0 h0 F A w cells slots pc Ls (.ref k :: St) σ t := by
  intro x hx T locs rl X W O N f L
  have Fd := (W.1 k _ hk).2 j n d cd hfs
  obtain ⟨T', X', e', st'⟩ := getF X hc.1 hc.2.1 hc.2.2.2.1 (host := "") (Or.inl wl) Via.refl rfl Fd (g := mkF m pc rl.toArray (.ref (A k) :: St.map (cv A))) rfl rfl (hb hc.2.2.1 hd)
  obtain ⟨s₂, o, st, r⟩ := κ x hx T' locs rl X' (by rw [e']; exact W) (by rw [e']; exact O) N f L
  exact ⟨s₂, o, st' _ st, r⟩
theorem am_putf (hc : Cx p s m meth c Z own bytes maxL ret mn) (hF : FsOk Z a0 C fs) (wi : (Cond.instantiable C kk).before a0 Z = true) {k q j i cd : Nat} {n d : String} {v : Value} (hk : w k = some (.inl q)) (hfs : fs[j]? = some (n, d, cd)) (wl : (Cond.fieldLink own i C n d).before a0 Z = true) (hL : Lay1 Z a0 C own mn n d) (hd : decode bytes pc = .ok (.putfield i, 3))
    (hv : (cd = 0 ∧ (∃ x, v = .int x) ∨ cd = 1 ∧ ∃ x, v = .long x)) (hfv : fv σ' k j q cd = v) (hcv : cv A v = v) (hσ : ∀ k', k' ≠ k → ∀ i, gi σ' k' i = gi σ k' i ∧ gj σ' k' i = gj σ k' i) (hσ2 : ∀ j', j' ≠ j → gi σ' k j' = gi σ k j' ∧ gj σ' k j' = gj σ k j')
    (κ : OkR p l e R s m args below meth c Z C fs n0 h0 F A w cells slots (pc + 3) Ls St σ' t) : OkR p l e R s m args below meth c Z C fs n0 h0 F A w cells slots pc Ls (v :: .ref k :: St) σ t := by
  intro x hx T locs rl X W O N f L
  have hO := W.1 k _ hk
  have Fd := hO.2 j n d cd hfs
  obtain ⟨hlaid, ⟨ty, hty, t0, t1, -⟩, hinj⟩ := hF j n d cd hfs
  have hn : narrow ty v = v ∧ fits ty v = true := by
    rcases hv with ⟨e, y, rfl⟩ | ⟨e, y, rfl⟩
    · rw [t0 e]; exact ⟨rfl, rfl⟩
    · rw [t1 e]; exact ⟨rfl, rfl⟩
  have hL' : (Cond.lays C C n d).before a0 Z = true ∨ ((Cond.laysFinal C C n d).before a0 Z = true ∧ own = C ∧ meth.name = "<init>") := hL.imp id fun q => ⟨q.1, q.2.1, hc.2.2.2.2.2.2.2.trans q.2.2⟩
  obtain ⟨T', h', X', e', Q, st'⟩ := putF X hc.1 hc.2.1 hc.2.2.2.1 (host := "") (Or.inl wl) Via.refl rfl Fd hO.1 hL' wi hty hn.1 hn.2 (g := mkF m pc rl.toArray (v :: .ref (A k) :: St.map (cv A))) rfl rfl (hb hc.2.2.1 hd)
  subst e'
  have W' : Wd Z C fs T'.heap A w σ' := by
    refine W.write hk Q hσ ⟨hO.1.wr Q, fun j' n' d' cd' hj' => ?_⟩
    by_cases ej : j' = j
    · subst ej
      rw [hfs] at hj'; cases hj'
      rw [hfv, hcv]
      exact Fd.same Q
    · obtain ⟨hlaid', ⟨ty', hty', -⟩, -⟩ := hF j' n' d' cd' hj'
      have e1 : fv σ' k j' q cd' = fv σ k j' q cd' := by
        match cd' with
        | 0 => simp only [fv, (hσ2 j' ej).1]
        | 1 => simp only [fv, (hσ2 j' ej).2]
        | r + 2 => rfl
      rw [e1]
      exact (hO.2 j' n' d' cd' hj').other Q (Or.inr (slot_ne hlaid' hlaid (fun q => ej (hinj _ _ _ _ hj' q.symm).symm) hty' hty))
  obtain ⟨s₂, o, st, r⟩ := κ x hx T' _ rl X' W' (O.write hk rfl Q) N (Fr.snoc X' f (N k _ hk rfl)) L
  have e2 : List.map (cv A) (v :: .ref k :: St) = v :: .ref (A k) :: St.map (cv A) := by rw [List.map_cons, List.map_cons, hcv]; rfl
  exact ⟨s₂, o, by rw [e2]; exact st' _ st, r⟩

set_option maxHeartbeats 4000000 in
theorem ev1_ok (hc : Cx p s m meth c Z own bytes maxL ret mn) (hT : Tab Z a0 C own mn fs fl pfl kI kJ) (hF : FsOk Z a0 C fs) (wi : (Cond.instantiable C kk).before a0 Z = true) {i : Instr} (hd : decode bytes pc = .ok (i, ilen i)) (hj : jok pc i = true) (hev : ev1 w fs fl pfl kI kJ i Ls St σ = some (Ls', St', σ'))
    (k : OkR p l e R s m args below meth c Z C fs n0 h0 F A w cells slots (npc pc i) Ls' St' σ' t) : OkR p l e R s m args below meth c Z C fs n0 h0 F A w cells slots pc Ls St σ t := by
  cases i
  case iadd =>
    simp only [ev1] at hev
    split at hev
    · cases hev
      intro x' hx T locs rl X W O N f L
      obtain ⟨s₂, o, st, r'⟩ := k x' hx T locs rl X W O N f L
      exact ⟨s₂, o, XS.iadd X.here hc.1 rfl (hb hc.2.2.1 hd) rfl st, r'⟩
    · cases hev
  case isub =>
    simp only [ev1] at hev
    split at hev
    · cases hev
      intro x' hx T locs rl X W O N f L
      obtain ⟨s₂, o, st, r'⟩ := k x' hx T locs rl X W O N f L
      exact ⟨s₂, o, XS.isub X.here hc.1 rfl (hb hc.2.2.1 hd) rfl st, r'⟩
    · cases hev
  case imul =>
    simp only [ev1] at hev
    split at hev
    · cases hev
      intro x' hx T locs rl X W O N f L
      obtain ⟨s₂, o, st, r'⟩ := k x' hx T locs rl X W O N f L
      exact ⟨s₂, o, XS.imul X.here hc.1 rfl (hb hc.2.2.1 hd) rfl st, r'⟩
    · cases hev
  case iand =>
    simp only [ev1] at hev
    split at hev
    · cases hev
      intro x' hx T locs rl X W O N f L
      obtain ⟨s₂, o, st, r'⟩ := k x' hx T locs rl X W O N f L
      exact ⟨s₂, o, XS.iand X.here hc.1 rfl (hb hc.2.2.1 hd) rfl st, r'⟩
    · cases hev
  case ior =>
    simp only [ev1] at hev
    split at hev
    · cases hev
      intro x' hx T locs rl X W O N f L
      obtain ⟨s₂, o, st, r'⟩ := k x' hx T locs rl X W O N f L
      exact ⟨s₂, o, XT.ior X.here hc.1 rfl (hb hc.2.2.1 hd) rfl st, r'⟩
    · cases hev
  case ixor =>
    simp only [ev1] at hev
    split at hev
    · cases hev
      intro x' hx T locs rl X W O N f L
      obtain ⟨s₂, o, st, r'⟩ := k x' hx T locs rl X W O N f L
      exact ⟨s₂, o, XT.ixor X.here hc.1 rfl (hb hc.2.2.1 hd) rfl st, r'⟩
    · cases hev
  case ishl =>
    simp only [ev1] at hev
    split at hev
    · cases hev
      intro x' hx T locs rl X W O N f L
      obtain ⟨s₂, o, st, r'⟩ := k x' hx T locs rl X W O N f L
      exact ⟨s₂, o, XT.ishl X.here hc.1 rfl (hb hc.2.2.1 hd) rfl st, r'⟩
    · cases hev
  case ishr =>
    simp only [ev1] at hev
    split at hev
    · cases hev
      intro x' hx T locs rl X W O N f L
      obtain ⟨s₂, o, st, r'⟩ := k x' hx T locs rl X W O N f L
      exact ⟨s₂, o, XT.ishr X.here hc.1 rfl (hb hc.2.2.1 hd) rfl st, r'⟩
    · cases hev
  case iushr =>
    simp only [ev1] at hev
    split at hev
    · cases hev
      intro x' hx T locs rl X W O N f L
      obtain ⟨s₂, o, st, r'⟩ := k x' hx T locs rl X W O N f L
      exact ⟨s₂, o, XT.iushr X.here hc.1 rfl (hb hc.2.2.1 hd) rfl st, r'⟩
    · cases hev
  case ladd =>
    simp only [ev1] at hev
    split at hev
    · cases hev
      intro x' hx T locs rl X W O N f L
      obtain ⟨s₂, o, st, r'⟩ := k x' hx T locs rl X W O N f L
      exact ⟨s₂, o, XT.ladd X.here hc.1 rfl (hb hc.2.2.1 hd) rfl st, r'⟩
    · cases hev
  case lsub =>
    simp only [ev1] at hev
    split at hev
    · cases hev
      intro x' hx T locs rl X W O N f L
      obtain ⟨s₂, o, st, r'⟩ := k x' hx T locs rl X W O N f L
      exact ⟨s₂, o, XT.lsub X.here hc.1 rfl (hb hc.2.2.1 hd) rfl st, r'⟩
    · cases hev
  case lmul =>
    simp only [ev1] at hev
    split at hev
    · cases hev
      intro x' hx T locs rl X W O N f L
      obtain ⟨s₂, o, st, r'⟩ := k x' hx T locs rl X W O N f L
      exact ⟨s₂, o, XT.lmul X.here hc.1 rfl (hb hc.2.2.1 hd) rfl st, r'⟩
    · cases hev
  case land =>
    simp only [ev1] at hev
    split at hev
    · cases hev
      intro x' hx T locs rl X W O N f L
      obtain ⟨s₂, o, st, r'⟩ := k x' hx T locs rl X W O N f L
      exact ⟨s₂, o, XT.land X.here hc.1 rfl (hb hc.2.2.1 hd) rfl st, r'⟩
    · cases hev
  case lor =>
    simp only [ev1] at hev
    split at hev
    · cases hev
      intro x' hx T locs rl X W O N f L
      obtain ⟨s₂, o, st, r'⟩ := k x' hx T locs rl X W O N f L
      exact ⟨s₂, o, XT.lor X.here hc.1 rfl (hb hc.2.2.1 hd) rfl st, r'⟩
    · cases hev
  case lxor =>
    simp only [ev1] at hev
    split at hev
    · cases hev
      intro x' hx T locs rl X W O N f L
      obtain ⟨s₂, o, st, r'⟩ := k x' hx T locs rl X W O N f L
      exact ⟨s₂, o, XT.lxor X.here hc.1 rfl (hb hc.2.2.1 hd) rfl st, r'⟩
    · cases hev
  case lshl =>
    simp only [ev1] at hev
    split at hev
    · cases hev
      intro x' hx T locs rl X W O N f L
      obtain ⟨s₂, o, st, r'⟩ := k x' hx T locs rl X W O N f L
      exact ⟨s₂, o, XT.lshl X.here hc.1 rfl (hb hc.2.2.1 hd) rfl st, r'⟩
    · cases hev
  case lushr =>
    simp only [ev1] at hev
    split at hev
    · cases hev
      intro x' hx T locs rl X W O N f L
      obtain ⟨s₂, o, st, r'⟩ := k x' hx T locs rl X W O N f L
      exact ⟨s₂, o, XT.lushr X.here hc.1 rfl (hb hc.2.2.1 hd) rfl st, r'⟩
    · cases hev
  case lshr =>
    simp only [ev1] at hev
    split at hev
    · cases hev
      intro x' hx T locs rl X W O N f L
      obtain ⟨s₂, o, st, r'⟩ := k x' hx T locs rl X W O N f L
      exact ⟨s₂, o, XT.lshr X.here hc.1 rfl (hb hc.2.2.1 hd) rfl st, r'⟩
    · cases hev
  case lcmp =>
    simp only [ev1] at hev
    split at hev
    · cases hev
      intro x' hx T locs rl X W O N f L
      obtain ⟨s₂, o, st, r'⟩ := k x' hx T locs rl X W O N f L
      exact ⟨s₂, o, XT.lcmp X.here hc.1 rfl (hb hc.2.2.1 hd) rfl st, r'⟩
    · cases hev
  case ineg =>
    simp only [ev1] at hev
    split at hev
    · cases hev
      intro x' hx T locs rl X W O N f L
      obtain ⟨s₂, o, st, r'⟩ := k x' hx T locs rl X W O N f L
      exact ⟨s₂, o, XS.ineg X.here hc.1 rfl (hb hc.2.2.1 hd) rfl st, r'⟩
    · cases hev
  case lneg =>
    simp only [ev1] at hev
    split at hev
    · cases hev
      intro x' hx T locs rl X W O N f L
      obtain ⟨s₂, o, st, r'⟩ := k x' hx T locs rl X W O N f L
      exact ⟨s₂, o, XT.lneg X.here hc.1 rfl (hb hc.2.2.1 hd) rfl st, r'⟩
    · cases hev
  case i2l =>
    simp only [ev1] at hev
    split at hev
    · cases hev
      intro x' hx T locs rl X W O N f L
      obtain ⟨s₂, o, st, r'⟩ := k x' hx T locs rl X W O N f L
      exact ⟨s₂, o, XT.i2l X.here hc.1 rfl (hb hc.2.2.1 hd) rfl st, r'⟩
    · cases hev
  case l2i =>
    simp only [ev1] at hev
    split at hev
    · cases hev
      intro x' hx T locs rl X W O N f L
      obtain ⟨s₂, o, st, r'⟩ := k x' hx T locs rl X W O N f L
      exact ⟨s₂, o, XT.l2i X.here hc.1 rfl (hb hc.2.2.1 hd) rfl st, r'⟩
    · cases hev
  case i2b =>
    simp only [ev1] at hev
    split at hev
    · cases hev
      intro x' hx T locs rl X W O N f L
      obtain ⟨s₂, o, st, r'⟩ := k x' hx T locs rl X W O N f L
      exact ⟨s₂, o, XT.i2b X.here hc.1 rfl (hb hc.2.2.1 hd) rfl st, r'⟩
    · cases hev
  case iconst k =>
    simp only [ev1] at hev
    cases hev
    · rw [ic_eq] at k
      intro x' hx T locs rl X W O N f L
      obtain ⟨s₂, o, st, r'⟩ := k x' hx T locs rl X W O N f L
      exact ⟨s₂, o, XS.iconst X.here hc.1 rfl (hb hc.2.2.1 hd) st, r'⟩
  case bipush k =>
    simp only [ev1] at hev
    cases hev
    · intro x' hx T locs rl X W O N f L
      obtain ⟨s₂, o, st, r'⟩ := k x' hx T locs rl X W O N f L
      exact ⟨s₂, o, XS.bipush X.here hc.1 rfl (hb hc.2.2.1 hd) st, r'⟩
  case sipush k =>
    simp only [ev1] at hev
    cases hev
    · intro x' hx T locs rl X W O N f L
      obtain ⟨s₂, o, st, r'⟩ := k x' hx T locs rl X W O N f L
      exact ⟨s₂, o, x_sipush X.here hc.1 rfl (hb hc.2.2.1 hd) st, r'⟩
  case lconst k =>
    simp only [ev1] at hev
    cases hev
    · intro x' hx T locs rl X W O N f L
      obtain ⟨s₂, o, st, r'⟩ := k x' hx T locs rl X W O N f L
      exact ⟨s₂, o, XT.lconst X.here hc.1 rfl (hb hc.2.2.1 hd) st, r'⟩
  case ldc i =>
    simp only [ev1] at hev
    split at hev
    · cases hev
      rename_i v hv
      intro x' hx T locs rl X W O N f L
      obtain ⟨s₂, o, st, r'⟩ := k x' hx T locs rl X W O N f L
      exact ⟨s₂, o, X.ldcI hc.1 hc.2.2.2.1 (mv hc.2.1 (hT.2.2.1 _ (lkp_mem hv))) rfl (hb hc.2.2.1 hd) st, r'⟩
    · cases hev
  case ldc2_w i =>
    simp only [ev1] at hev
    split at hev
    · cases hev
      rename_i v hv
      intro x' hx T locs rl X W O N f L
      obtain ⟨s₂, o, st, r'⟩ := k x' hx T locs rl X W O N f L
      exact ⟨s₂, o, X.ldc2J hc.1 hc.2.2.2.1 (mv hc.2.1 (hT.2.2.2 _ (lkp_mem hv))) rfl (hb hc.2.2.1 hd) st, r'⟩
    · cases hev
  case iload_n n =>
    simp only [ev1] at hev
    split at hev
    · cases hev
      rename_i v hv
      intro x' hx T locs rl X W O N f L
      obtain ⟨s₂, o, st, r'⟩ := k x' hx T locs rl X W O N f L
      exact ⟨s₂, o, XS.iloadN X.here hc.1 rfl (hb hc.2.2.1 hd) (am_ld L hv) st, r'⟩
    · cases hev
  case iload n =>
    simp only [ev1] at hev
    split at hev
    · cases hev
      rename_i v hv
      intro x' hx T locs rl X W O N f L
      obtain ⟨s₂, o, st, r'⟩ := k x' hx T locs rl X W O N f L
      exact ⟨s₂, o, XS.iload X.here hc.1 rfl (hb hc.2.2.1 hd) (am_ld L hv) st, r'⟩
    · cases hev
  case lload_n n =>
    simp only [ev1] at hev
    split at hev
    · cases hev
      rename_i v hv
      intro x' hx T locs rl X W O N f L
      obtain ⟨s₂, o, st, r'⟩ := k x' hx T locs rl X W O N f L
      exact ⟨s₂, o, XT.lloadN X.here hc.1 rfl (hb hc.2.2.1 hd) (am_ld L hv) st, r'⟩
    · cases hev
  case lload n =>
    simp only [ev1] at hev
    split at hev
    · cases hev
      rename_i v hv
      intro x' hx T locs rl X W O N f L
      obtain ⟨s₂, o, st, r'⟩ := k x' hx T locs rl X W O N f L
      exact ⟨s₂, o, XT.lload X.here hc.1 rfl (hb hc.2.2.1 hd) (am_ld L hv) st, r'⟩
    · cases hev
  case aload_n n =>
    simp only [ev1] at hev
    split at hev
    · cases hev
      rename_i v hv
      intro x' hx T locs rl X W O N f L
      obtain ⟨s₂, o, st, r'⟩ := k x' hx T locs rl X W O N f L
      exact ⟨s₂, o, XS.aloadN X.here hc.1 rfl (hb hc.2.2.1 hd) (am_ld L hv) rfl st, r'⟩
    · cases hev
  case aload n =>
    simp only [ev1] at hev
    split at hev
    · cases hev
      rename_i v hv
      intro x' hx T locs rl X W O N f L
      obtain ⟨s₂, o, st, r'⟩ := k x' hx T locs rl X W O N f L
      exact ⟨s₂, o, XS.aload X.here hc.1 rfl (hb hc.2.2.1 hd) (am_ld L hv) rfl st, r'⟩
    · cases hev
  case istore_n n =>
    simp only [ev1] at hev
    split at hev
    · split at hev
      · cases hev
        rename_i v hk
        intro x' hx T locs rl X W O N f L
        obtain ⟨rl', hst, L'⟩ := am_st1 (v := .int v) L hk rfl
        obtain ⟨s₂, o, st, r'⟩ := k x' hx T locs rl' X W O N f L'
        exact ⟨s₂, o, XS.istoreN X.here hc.1 rfl (hb hc.2.2.1 hd) rfl hst st, r'⟩
      · cases hev
    · cases hev
  case istore n =>
    simp only [ev1] at hev
    split at hev
    · split at hev
      · cases hev
        rename_i v hk
        intro x' hx T locs rl X W O N f L
        obtain ⟨rl', hst, L'⟩ := am_st1 (v := .int v) L hk rfl
        obtain ⟨s₂, o, st, r'⟩ := k x' hx T locs rl' X W O N f L'
        exact ⟨s₂, o, XS.istore X.here hc.1 rfl (hb hc.2.2.1 hd) rfl hst st, r'⟩
      · cases hev
    · cases hev
  case astore_n n =>
    simp only [ev1] at hev
    split at hev
    · split at hev
      · cases hev
        rename_i v hk
        intro x' hx T locs rl X W O N f L
        obtain ⟨rl', hst, L'⟩ := am_st1 (v := .ref v) L hk rfl
        obtain ⟨s₂, o, st, r'⟩ := k x' hx T locs rl' X W O N f L'
        exact ⟨s₂, o, XS.astoreN X.here hc.1 rfl (hb hc.2.2.1 hd) rfl rfl hst st, r'⟩
      · cases hev
    · cases hev
  case astore n =>
    simp only [ev1] at hev
    split at hev
    · split at hev
      · cases hev
        rename_i v hk
        intro x' hx T locs rl X W O N f L
        obtain ⟨rl', hst, L'⟩ := am_st1 (v := .ref v) L hk rfl
        obtain ⟨s₂, o, st, r'⟩ := k x' hx T locs rl' X W O N f L'
        exact ⟨s₂, o, XS.astore X.here hc.1 rfl (hb hc.2.2.1 hd) rfl rfl hst st, r'⟩
      · cases hev
    · cases hev
  case lstore_n n =>
    simp only [ev1] at hev
    split at hev
    · split at hev
      · cases hev
        rename_i v hk
        intro x' hx T locs rl X W O N f L
        obtain ⟨rl', hst, L'⟩ := am_st2 (v := .long v) L hk rfl
        obtain ⟨s₂, o, st, r'⟩ := k x' hx T locs rl' X W O N f L'
        exact ⟨s₂, o, XT.lstoreN X.here hc.1 rfl (hb hc.2.2.1 hd) rfl hst st, r'⟩
      · cases hev
    · cases hev
  case lstore n =>
    simp only [ev1] at hev
    split at hev
    · split at hev
      · cases hev
        rename_i v hk
        intro x' hx T locs rl X W O N f L
        obtain ⟨rl', hst, L'⟩ := am_st2 (v := .long v) L hk rfl
        obtain ⟨s₂, o, st, r'⟩ := k x' hx T locs rl' X W O N f L'
        exact ⟨s₂, o, XT.lstore X.here hc.1 rfl (hb hc.2.2.1 hd) rfl hst st, r'⟩
      · cases hev
    · cases hev
  case iinc n cst =>
    simp only [ev1] at hev
    split at hev
    · split at hev
      · cases hev
        rename_i v hv hk
        intro x' hx T locs rl X W O N f L
        obtain ⟨rl', hst, L'⟩ := am_st1 (v := .int (v + ic cst)) L hk rfl
        obtain ⟨s₂, o, st, r'⟩ := k x' hx T locs rl' X W O N f L'
        exact ⟨s₂, o, XS.iinc X.here hc.1 rfl (hb hc.2.2.1 hd) (am_ld L hv) (by rw [← ic_eq]; exact hst) st, r'⟩
      · cases hev
    · cases hev
  case dup =>
    simp only [ev1] at hev
    split at hev
    · cases hev
      intro x' hx T locs rl X W O N f L
      obtain ⟨s₂, o, st, r'⟩ := k x' hx T locs rl X W O N f L
      exact ⟨s₂, o, XS.dup X.here hc.1 rfl (hb hc.2.2.1 hd) rfl rfl st, r'⟩
    · cases hev
      intro x' hx T locs rl X W O N f L
      obtain ⟨s₂, o, st, r'⟩ := k x' hx T locs rl X W O N f L
      exact ⟨s₂, o, XS.dup X.here hc.1 rfl (hb hc.2.2.1 hd) rfl rfl st, r'⟩
    · cases hev
  case pop =>
    simp only [ev1] at hev
    split at hev
    · cases hev
      intro x' hx T locs rl X W O N f L
      obtain ⟨s₂, o, st, r'⟩ := k x' hx T locs rl X W O N f L
      exact ⟨s₂, o, XT.pop X.here hc.1 rfl (hb hc.2.2.1 hd) rfl rfl st, r'⟩
    · cases hev
  case goto off =>
    simp only [ev1] at hev
    cases hev
    · intro x' hx T locs rl X W O N f L
      obtain ⟨s₂, o, st, r'⟩ := k x' hx T locs rl X W O N f L
      exact ⟨s₂, o, XS.goto X.here hc.1 rfl (pc0 := pc) rfl (hb hc.2.2.1 hd) (of_decide_eq_true hj) rfl st, r'⟩
  case getfield i =>
    simp only [ev1] at hev
    split at hev
    · split at hev
      · rename_i q hq
        split at hev
        · rename_i j hj'
          split at hev
          · rename_i n d cd hfs
            cases hev
            obtain ⟨n', d', cd', h1, h2⟩ := hT.1 _ (lkp_mem hj')
            rw [hfs] at h1; cases h1
            exact am_getf hc hq hfs h2 hd k
          · cases hev
        · cases hev
      · cases hev
    · cases hev
  case putfield i =>
    simp only [ev1] at hev
    split at hev
    · split at hev
      · rename_i q hq
        split at hev
        · rename_i j hj'
          split at hev
          · rename_i n d hfs
            cases hev
            obtain ⟨n', d', cd', h1, h2, h3⟩ := hT.2.1 _ (lkp_mem hj')
            rw [hfs] at h1; cases h1
            exact am_putf hc hF wi hq hfs h2 h3 hd (Or.inl ⟨rfl, _, rfl⟩) (by simp [fv, gi_si]) rfl (si_off _ _ _ _) (fun j' ne => ⟨by rw [gi_si, if_neg (fun z => ne z.2)], rfl⟩) k
          · cases hev
        · cases hev
      · cases hev
    · split at hev
      · rename_i q hq
        split at hev
        · rename_i j hj'
          split at hev
          · rename_i n d hfs
            cases hev
            obtain ⟨n', d', cd', h1, h2, h3⟩ := hT.2.1 _ (lkp_mem hj')
            rw [hfs] at h1; cases h1
            exact am_putf hc hF wi hq hfs h2 h3 hd (Or.inr ⟨rfl, _, rfl⟩) (by simp [fv, gj_sj]) rfl (sj_off _ _ _ _) (fun j' ne => ⟨rfl, by rw [gj_sj, if_neg (fun z => ne z.2)]⟩) k
          · cases hev
        · cases hev
      · cases hev
    · cases hev
  all_goals (simp [ev1] at hev)
def evB (w : Nat → Option CD) (fs : FS) (fl pfl : List (Nat × Nat)) (kI : List (Nat × Int32)) (kJ : List (Nat × Int64)) : List Instr → List Slot → List Value → Sg → Option (List Slot × List Value × Sg)
  | [], Ls, St, σ => some (Ls, St, σ)
  | i :: is, Ls, St, σ => match ev1 w fs fl pfl kI kJ i Ls St σ with
    | some (Ls', St', σ') => evB w fs fl pfl kI kJ is Ls' St' σ'
    | none => none
def decB (code : ByteArray) : Nat → List Instr → Nat → Bool
  | pc, [], pc' => pc == pc'
  | pc, i :: is, pc' => decide (decode code pc = .ok (i, ilen i)) && jok pc i && decB code (npc pc i) is pc'
theorem am_blk {pc' : Nat} (is : List Instr) (hd : decB bytes pc is pc' = true) (hc : Cx p s m meth c Z own bytes maxL ret mn) (hT : Tab Z a0 C own mn fs fl pfl kI kJ) (hF : FsOk Z a0 C fs) (wi : (Cond.instantiable C kk).before a0 Z = true) (hev : evB w fs fl pfl kI kJ is Ls St σ = some (Ls', St', σ'))
    (k : OkR p l e R s m args below meth c Z C fs n0 h0 F A w cells slots pc' Ls' St' σ' t) : OkR p l e R s m args below meth c Z C fs n0 h0 F A w cells slots pc Ls St σ t := by
  induction is generalizing pc Ls St σ with
  | nil =>
    unfold evB at hev; cases hev
    unfold decB at hd
    have := eq_of_beq hd; subst this
    exact k
  | cons i is ih =>
    unfold evB at hev
    unfold decB at hd
    simp only [Bool.and_eq_true] at hd
    split at hev
    · rename_i L1 S1 σ1 h1
      exact ev1_ok hc hT hF wi (of_decide_eq_true hd.1.1) hd.1.2 h1 (ih hd.2 hev)
    · cases hev

def brk (code : ByteArray) (pc : Nat) (i : Instr) (o : Int) (pc1 : Nat) : Bool := decide (decode code pc = .ok (i, 3)) && decide (0 ≤ (pc : Int) + o) && decide (((pc : Int) + o).toNat = pc1)
theorem brk_spec {code : ByteArray} {pc : Nat} {i : Instr} {o : Int} {pc1 : Nat} (h : brk code pc i o pc1 = true) : decode code pc = .ok (i, 3) ∧ 0 ≤ (pc : Int) + o ∧ ((pc : Int) + o).toNat = pc1 := by
  simp only [brk, Bool.and_eq_true, decide_eq_true_eq] at h; exact ⟨h.1.1, h.1.2, h.2⟩
theorem am_icmpT {cd : ClassFile.Cond} {o : Int} {x y : Int32} {P : Prop} [Decidable P] {pc1 : Nat} {t1 t2 : Option α} (hY : P → if_icmp.holds cd x y = true) (hN : ¬ P → if_icmp.holds cd x y = false) (hd : brk bytes pc (.if_icmp cd o) o pc1 = true) (hc : Cx p s m meth c Z own bytes maxL ret mn)
    (k1 : P → OkR p l e R s m args below meth c Z C fs n0 h0 F A w cells slots pc1 Ls St σ t1) (k2 : ¬ P → OkR p l e R s m args below meth c Z C fs n0 h0 F A w cells slots (pc + 3) Ls St σ t2) : OkR p l e R s m args below meth c Z C fs n0 h0 F A w cells slots pc Ls (.int y :: .int x :: St) σ (if P then t1 else t2) := by
  obtain ⟨d1, d2, d3⟩ := brk_spec hd
  by_cases q : P
  · rw [if_pos q]
    intro x' hx T locs rl X W O N f L
    obtain ⟨s₂, o', st, r⟩ := k1 q x' hx T locs rl X W O N f L
    exact ⟨s₂, o', XS.icmpYes X.here hc.1 rfl (pc0 := pc) rfl (hb hc.2.2.1 d1) rfl (hY q) d2 d3 st, r⟩
  · rw [if_neg q]
    intro x' hx T locs rl X W O N f L
    obtain ⟨s₂, o', st, r⟩ := k2 q x' hx T locs rl X W O N f L
    exact ⟨s₂, o', XS.icmpNo X.here hc.1 rfl (hb hc.2.2.1 d1) rfl (hN q) st, r⟩
theorem am_icmpF {cd : ClassFile.Cond} {o : Int} {x y : Int32} {P : Prop} [Decidable P] {pc1 : Nat} {t1 t2 : Option α} (hY : ¬ P → if_icmp.holds cd x y = true) (hN : P → if_icmp.holds cd x y = false) (hd : brk bytes pc (.if_icmp cd o) o pc1 = true) (hc : Cx p s m meth c Z own bytes maxL ret mn)
    (k1 : P → OkR p l e R s m args below meth c Z C fs n0 h0 F A w cells slots (pc + 3) Ls St σ t1) (k2 : ¬ P → OkR p l e R s m args below meth c Z C fs n0 h0 F A w cells slots pc1 Ls St σ t2) : OkR p l e R s m args below meth c Z C fs n0 h0 F A w cells slots pc Ls (.int y :: .int x :: St) σ (if P then t1 else t2) := by
  obtain ⟨d1, d2, d3⟩ := brk_spec hd
  by_cases q : P
  · rw [if_pos q]
    intro x' hx T locs rl X W O N f L
    obtain ⟨s₂, o', st, r⟩ := k1 q x' hx T locs rl X W O N f L
    exact ⟨s₂, o', XS.icmpNo X.here hc.1 rfl (hb hc.2.2.1 d1) rfl (hN q) st, r⟩
  · rw [if_neg q]
    intro x' hx T locs rl X W O N f L
    obtain ⟨s₂, o', st, r⟩ := k2 q x' hx T locs rl X W O N f L
    exact ⟨s₂, o', XS.icmpYes X.here hc.1 rfl (pc0 := pc) rfl (hb hc.2.2.1 d1) rfl (hY q) d2 d3 st, r⟩
theorem am_ifT {cd : ClassFile.Cond} {o : Int} {x : Int32} {P : Prop} [Decidable P] {pc1 : Nat} {t1 t2 : Option α} (hY : P → ifCond.holds cd x = true) (hN : ¬ P → ifCond.holds cd x = false) (hd : brk bytes pc (.ifCond cd o) o pc1 = true) (hc : Cx p s m meth c Z own bytes maxL ret mn)
    (k1 : P → OkR p l e R s m args below meth c Z C fs n0 h0 F A w cells slots pc1 Ls St σ t1) (k2 : ¬ P → OkR p l e R s m args below meth c Z C fs n0 h0 F A w cells slots (pc + 3) Ls St σ t2) : OkR p l e R s m args below meth c Z C fs n0 h0 F A w cells slots pc Ls (.int x :: St) σ (if P then t1 else t2) := by
  obtain ⟨d1, d2, d3⟩ := brk_spec hd
  by_cases q : P
  · rw [if_pos q]
    intro x' hx T locs rl X W O N f L
    obtain ⟨s₂, o', st, r⟩ := k1 q x' hx T locs rl X W O N f L
    exact ⟨s₂, o', XS.ifYes X.here hc.1 rfl (pc0 := pc) rfl (hb hc.2.2.1 d1) rfl (hY q) d2 d3 st, r⟩
  · rw [if_neg q]
    intro x' hx T locs rl X W O N f L
    obtain ⟨s₂, o', st, r⟩ := k2 q x' hx T locs rl X W O N f L
    exact ⟨s₂, o', XS.ifNo X.here hc.1 rfl (hb hc.2.2.1 d1) rfl (hN q) st, r⟩
theorem am_ifF {cd : ClassFile.Cond} {o : Int} {x : Int32} {P : Prop} [Decidable P] {pc1 : Nat} {t1 t2 : Option α} (hY : ¬ P → ifCond.holds cd x = true) (hN : P → ifCond.holds cd x = false) (hd : brk bytes pc (.ifCond cd o) o pc1 = true) (hc : Cx p s m meth c Z own bytes maxL ret mn)
    (k1 : P → OkR p l e R s m args below meth c Z C fs n0 h0 F A w cells slots (pc + 3) Ls St σ t1) (k2 : ¬ P → OkR p l e R s m args below meth c Z C fs n0 h0 F A w cells slots pc1 Ls St σ t2) : OkR p l e R s m args below meth c Z C fs n0 h0 F A w cells slots pc Ls (.int x :: St) σ (if P then t1 else t2) := by
  obtain ⟨d1, d2, d3⟩ := brk_spec hd
  by_cases q : P
  · rw [if_pos q]
    intro x' hx T locs rl X W O N f L
    obtain ⟨s₂, o', st, r⟩ := k1 q x' hx T locs rl X W O N f L
    exact ⟨s₂, o', XS.ifNo X.here hc.1 rfl (hb hc.2.2.1 d1) rfl (hN q) st, r⟩
  · rw [if_neg q]
    intro x' hx T locs rl X W O N f L
    obtain ⟨s₂, o', st, r⟩ := k2 q x' hx T locs rl X W O N f L
    exact ⟨s₂, o', XS.ifYes X.here hc.1 rfl (pc0 := pc) rfl (hb hc.2.2.1 d1) rfl (hY q) d2 d3 st, r⟩
theorem am_icmp_lt {o : Int} {x y : Int32} {pc1 : Nat} {t1 t2 : Option α} (hd : brk bytes pc (.if_icmp .lt o) o pc1 = true) (hc : Cx p s m meth c Z own bytes maxL ret mn)
    (k1 : x < y → OkR p l e R s m args below meth c Z C fs n0 h0 F A w cells slots pc1 Ls St σ t1) (k2 : ¬ x < y → OkR p l e R s m args below meth c Z C fs n0 h0 F A w cells slots (pc + 3) Ls St σ t2) : OkR p l e R s m args below meth c Z C fs n0 h0 F A w cells slots pc Ls (.int y :: .int x :: St) σ (if x < y then t1 else t2) :=
  am_icmpT (fun h => (tlt h).1) (fun h => (flt h).1) hd hc k1 k2
theorem am_if_lt {o : Int} {x : Int32} {pc1 : Nat} {t1 t2 : Option α} (hd : brk bytes pc (.ifCond .lt o) o pc1 = true) (hc : Cx p s m meth c Z own bytes maxL ret mn)
    (k1 : x < 0 → OkR p l e R s m args below meth c Z C fs n0 h0 F A w cells slots pc1 Ls St σ t1) (k2 : ¬ x < 0 → OkR p l e R s m args below meth c Z C fs n0 h0 F A w cells slots (pc + 3) Ls St σ t2) : OkR p l e R s m args below meth c Z C fs n0 h0 F A w cells slots pc Ls (.int x :: St) σ (if x < 0 then t1 else t2) :=
  am_ifT (fun h => (if0 _ _).trans (tlt h).1) (fun h => (if0 _ _).trans (flt h).1) hd hc k1 k2
theorem am_icmp_ge {o : Int} {x y : Int32} {pc1 : Nat} {t1 t2 : Option α} (hd : brk bytes pc (.if_icmp .ge o) o pc1 = true) (hc : Cx p s m meth c Z own bytes maxL ret mn)
    (k1 : x < y → OkR p l e R s m args below meth c Z C fs n0 h0 F A w cells slots (pc + 3) Ls St σ t1) (k2 : ¬ x < y → OkR p l e R s m args below meth c Z C fs n0 h0 F A w cells slots pc1 Ls St σ t2) : OkR p l e R s m args below meth c Z C fs n0 h0 F A w cells slots pc Ls (.int y :: .int x :: St) σ (if x < y then t1 else t2) :=
  am_icmpF (fun h => (flt h).2.1) (fun h => (tlt h).2.1) hd hc k1 k2
theorem am_if_ge {o : Int} {x : Int32} {pc1 : Nat} {t1 t2 : Option α} (hd : brk bytes pc (.ifCond .ge o) o pc1 = true) (hc : Cx p s m meth c Z own bytes maxL ret mn)
    (k1 : x < 0 → OkR p l e R s m args below meth c Z C fs n0 h0 F A w cells slots (pc + 3) Ls St σ t1) (k2 : ¬ x < 0 → OkR p l e R s m args below meth c Z C fs n0 h0 F A w cells slots pc1 Ls St σ t2) : OkR p l e R s m args below meth c Z C fs n0 h0 F A w cells slots pc Ls (.int x :: St) σ (if x < 0 then t1 else t2) :=
  am_ifF (fun h => (if0 _ _).trans (flt h).2.1) (fun h => (if0 _ _).trans (tlt h).2.1) hd hc k1 k2
theorem am_icmp_gt {o : Int} {x y : Int32} {pc1 : Nat} {t1 t2 : Option α} (hd : brk bytes pc (.if_icmp .gt o) o pc1 = true) (hc : Cx p s m meth c Z own bytes maxL ret mn)
    (k1 : y < x → OkR p l e R s m args below meth c Z C fs n0 h0 F A w cells slots pc1 Ls St σ t1) (k2 : ¬ y < x → OkR p l e R s m args below meth c Z C fs n0 h0 F A w cells slots (pc + 3) Ls St σ t2) : OkR p l e R s m args below meth c Z C fs n0 h0 F A w cells slots pc Ls (.int y :: .int x :: St) σ (if y < x then t1 else t2) :=
  am_icmpT (fun h => (tlt h).2.2.1) (fun h => (flt h).2.2.1) hd hc k1 k2
theorem am_if_gt {o : Int} {x : Int32} {pc1 : Nat} {t1 t2 : Option α} (hd : brk bytes pc (.ifCond .gt o) o pc1 = true) (hc : Cx p s m meth c Z own bytes maxL ret mn)
    (k1 : 0 < x → OkR p l e R s m args below meth c Z C fs n0 h0 F A w cells slots pc1 Ls St σ t1) (k2 : ¬ 0 < x → OkR p l e R s m args below meth c Z C fs n0 h0 F A w cells slots (pc + 3) Ls St σ t2) : OkR p l e R s m args below meth c Z C fs n0 h0 F A w cells slots pc Ls (.int x :: St) σ (if 0 < x then t1 else t2) :=
  am_ifT (fun h => (if0 _ _).trans (tlt h).2.2.1) (fun h => (if0 _ _).trans (flt h).2.2.1) hd hc k1 k2
theorem am_icmp_le {o : Int} {x y : Int32} {pc1 : Nat} {t1 t2 : Option α} (hd : brk bytes pc (.if_icmp .le o) o pc1 = true) (hc : Cx p s m meth c Z own bytes maxL ret mn)
    (k1 : y < x → OkR p l e R s m args below meth c Z C fs n0 h0 F A w cells slots (pc + 3) Ls St σ t1) (k2 : ¬ y < x → OkR p l e R s m args below meth c Z C fs n0 h0 F A w cells slots pc1 Ls St σ t2) : OkR p l e R s m args below meth c Z C fs n0 h0 F A w cells slots pc Ls (.int y :: .int x :: St) σ (if y < x then t1 else t2) :=
  am_icmpF (fun h => (flt h).2.2.2) (fun h => (tlt h).2.2.2) hd hc k1 k2
theorem am_if_le {o : Int} {x : Int32} {pc1 : Nat} {t1 t2 : Option α} (hd : brk bytes pc (.ifCond .le o) o pc1 = true) (hc : Cx p s m meth c Z own bytes maxL ret mn)
    (k1 : 0 < x → OkR p l e R s m args below meth c Z C fs n0 h0 F A w cells slots (pc + 3) Ls St σ t1) (k2 : ¬ 0 < x → OkR p l e R s m args below meth c Z C fs n0 h0 F A w cells slots pc1 Ls St σ t2) : OkR p l e R s m args below meth c Z C fs n0 h0 F A w cells slots pc Ls (.int x :: St) σ (if 0 < x then t1 else t2) :=
  am_ifF (fun h => (if0 _ _).trans (flt h).2.2.2) (fun h => (if0 _ _).trans (tlt h).2.2.2) hd hc k1 k2
theorem am_icmp_eq {o : Int} {x y : Int32} {pc1 : Nat} {t1 t2 : Option α} (hd : brk bytes pc (.if_icmp .eq o) o pc1 = true) (hc : Cx p s m meth c Z own bytes maxL ret mn)
    (k1 : x = y → OkR p l e R s m args below meth c Z C fs n0 h0 F A w cells slots pc1 Ls St σ t1) (k2 : ¬ x = y → OkR p l e R s m args below meth c Z C fs n0 h0 F A w cells slots (pc + 3) Ls St σ t2) : OkR p l e R s m args below meth c Z C fs n0 h0 F A w cells slots pc Ls (.int y :: .int x :: St) σ (if x = y then t1 else t2) :=
  am_icmpT (fun h => (teq h).1) (fun h => (feq h).1) hd hc k1 k2
theorem am_if_eq {o : Int} {x : Int32} {pc1 : Nat} {t1 t2 : Option α} (hd : brk bytes pc (.ifCond .eq o) o pc1 = true) (hc : Cx p s m meth c Z own bytes maxL ret mn)
    (k1 : x = 0 → OkR p l e R s m args below meth c Z C fs n0 h0 F A w cells slots pc1 Ls St σ t1) (k2 : ¬ x = 0 → OkR p l e R s m args below meth c Z C fs n0 h0 F A w cells slots (pc + 3) Ls St σ t2) : OkR p l e R s m args below meth c Z C fs n0 h0 F A w cells slots pc Ls (.int x :: St) σ (if x = 0 then t1 else t2) :=
  am_ifT (fun h => (if0 _ _).trans (teq h).1) (fun h => (if0 _ _).trans (feq h).1) hd hc k1 k2
theorem am_icmp_ne {o : Int} {x y : Int32} {pc1 : Nat} {t1 t2 : Option α} (hd : brk bytes pc (.if_icmp .ne o) o pc1 = true) (hc : Cx p s m meth c Z own bytes maxL ret mn)
    (k1 : x = y → OkR p l e R s m args below meth c Z C fs n0 h0 F A w cells slots (pc + 3) Ls St σ t1) (k2 : ¬ x = y → OkR p l e R s m args below meth c Z C fs n0 h0 F A w cells slots pc1 Ls St σ t2) : OkR p l e R s m args below meth c Z C fs n0 h0 F A w cells slots pc Ls (.int y :: .int x :: St) σ (if x = y then t1 else t2) :=
  am_icmpF (fun h => (feq h).2) (fun h => (teq h).2) hd hc k1 k2
theorem am_if_ne {o : Int} {x : Int32} {pc1 : Nat} {t1 t2 : Option α} (hd : brk bytes pc (.ifCond .ne o) o pc1 = true) (hc : Cx p s m meth c Z own bytes maxL ret mn)
    (k1 : x = 0 → OkR p l e R s m args below meth c Z C fs n0 h0 F A w cells slots (pc + 3) Ls St σ t1) (k2 : ¬ x = 0 → OkR p l e R s m args below meth c Z C fs n0 h0 F A w cells slots pc1 Ls St σ t2) : OkR p l e R s m args below meth c Z C fs n0 h0 F A w cells slots pc Ls (.int x :: St) σ (if x = 0 then t1 else t2) :=
  am_ifF (fun h => (if0 _ _).trans (feq h).2) (fun h => (if0 _ _).trans (teq h).2) hd hc k1 k2

def inb (i : Int32) (n : Nat) : Bool := decide (0 ≤ i.toInt ∧ i.toInt < (n : Int))
theorem inb_iff {i : Int32} {n : Nat} : inb i n = true ↔ 0 ≤ i.toInt ∧ i.toInt < (n : Int) := by simp [inb]
theorem inb_of' {i : Int32} {n : Nat} (h : inb i n = true) : nx i < n ∧ i.toNatClampNeg = nx i ∧ ∀ c : Cell, c.slots.size = n → ¬ (i < 0 ∨ c.slots.size ≤ i.toNatClampNeg) := by
  obtain ⟨h1, h2⟩ := inb_iff.mp h
  have e : i.toNatClampNeg = nx i := rfl
  refine ⟨by unfold nx; omega, e, fun c hc => ?_⟩
  rw [hc, e]
  intro q
  rcases q with q | q
  · rw [Int32.lt_iff_toInt_lt] at q
    have : (0 : Int32).toInt = 0 := rfl
    omega
  · unfold nx at q; omega
theorem am_iaload {k n : Nat} {i : Int32} (hd : decode bytes pc = .ok (.iaload, 1)) (hc : Cx p s m meth c Z own bytes maxL ret mn) (hk : w k = some (.inr (.int, n, none)))
    (κ : inb i n = true → OkR p l e R s m args below meth c Z C fs n0 h0 F A w cells slots (pc + 1) Ls (.int (gi σ k (nx i)) :: St) σ t) : OkR p l e R s m args below meth c Z C fs n0 h0 F A w cells slots pc Ls (.int i :: .ref k :: St) σ (if inb i n = true then t else none) := by
  by_cases q : inb i n = true
  · rw [if_pos q]
    intro x hx T locs rl X W O N f L
    obtain ⟨q1, q2, q3⟩ := inb_of' q
    obtain ⟨cl, a1, a2, a3⟩ := W.1 k _ hk
    have hv : cl.slots[i.toNatClampNeg]? = some (.int (gi σ k (nx i))) := by rw [q2]; exact a3 _ q1
    obtain ⟨s₂, o', st, r⟩ := κ q x hx T locs rl X W O N f L
    exact ⟨s₂, o', X.iaload hc.1 a1.1 (State.isArrayOf_alike hc.2.1.alike a1.2.1) a1.2.2 (q3 cl a2) hv (g := mkF m pc rl.toArray (.int i :: .ref (A k) :: St.map (cv A))) rfl rfl (hb hc.2.2.1 hd) _ st, r⟩
  · rw [if_neg q]; exact am_none rfl
theorem am_iaload_k {k n : Nat} {i : Int32} (q : inb i n = true) (hd : decode bytes pc = .ok (.iaload, 1)) (hc : Cx p s m meth c Z own bytes maxL ret mn) (hk : w k = some (.inr (.int, n, none)))
    (κ : OkR p l e R s m args below meth c Z C fs n0 h0 F A w cells slots (pc + 1) Ls (.int (gi σ k (nx i)) :: St) σ t) : OkR p l e R s m args below meth c Z C fs n0 h0 F A w cells slots pc Ls (.int i :: .ref k :: St) σ t := by
  have := am_iaload hd hc hk fun _ => κ
  rw [if_pos q] at this; exact this
theorem am_ialoadC {k n : Nat} {i : Int32} {f0 : Nat → Int32} (hd : decode bytes pc = .ok (.iaload, 1)) (hc : Cx p s m meth c Z own bytes maxL ret mn) (hk : w k = some (.inr (.int, n, some f0)))
    (κ : inb i n = true → OkR p l e R s m args below meth c Z C fs n0 h0 F A w cells slots (pc + 1) Ls (.int (f0 (nx i)) :: St) σ t) : OkR p l e R s m args below meth c Z C fs n0 h0 F A w cells slots pc Ls (.int i :: .ref k :: St) σ (if inb i n = true then t else none) := by
  by_cases q : inb i n = true
  · rw [if_pos q]
    intro x hx T locs rl X W O N f L
    obtain ⟨q1, q2, q3⟩ := inb_of' q
    obtain ⟨cl, a1, a2, a3⟩ := W.1 k _ hk
    have hv : cl.slots[i.toNatClampNeg]? = some (.int (f0 (nx i))) := by rw [q2]; exact a3 _ q1
    obtain ⟨s₂, o', st, r⟩ := κ q x hx T locs rl X W O N f L
    exact ⟨s₂, o', X.iaload hc.1 a1.1 (State.isArrayOf_alike hc.2.1.alike a1.2.1) a1.2.2 (q3 cl a2) hv (g := mkF m pc rl.toArray (.int i :: .ref (A k) :: St.map (cv A))) rfl rfl (hb hc.2.2.1 hd) _ st, r⟩
  · rw [if_neg q]; exact am_none rfl
theorem am_ialoadC_k {k n : Nat} {i : Int32} {f0 : Nat → Int32} (q : inb i n = true) (hd : decode bytes pc = .ok (.iaload, 1)) (hc : Cx p s m meth c Z own bytes maxL ret mn) (hk : w k = some (.inr (.int, n, some f0)))
    (κ : OkR p l e R s m args below meth c Z C fs n0 h0 F A w cells slots (pc + 1) Ls (.int (f0 (nx i)) :: St) σ t) : OkR p l e R s m args below meth c Z C fs n0 h0 F A w cells slots pc Ls (.int i :: .ref k :: St) σ t := by
  have := am_ialoadC hd hc hk fun _ => κ
  rw [if_pos q] at this; exact this
theorem am_laload {k n : Nat} {i : Int32} (hd : decode bytes pc = .ok (.laload, 1)) (hc : Cx p s m meth c Z own bytes maxL ret mn) (hk : w k = some (.inr (.long, n, none)))
    (κ : inb i n = true → OkR p l e R s m args below meth c Z C fs n0 h0 F A w cells slots (pc + 1) Ls (.long (gj σ k (nx i)) :: St) σ t) : OkR p l e R s m args below meth c Z C fs n0 h0 F A w cells slots pc Ls (.int i :: .ref k :: St) σ (if inb i n = true then t else none) := by
  by_cases q : inb i n = true
  · rw [if_pos q]
    intro x hx T locs rl X W O N f L
    obtain ⟨q1, q2, q3⟩ := inb_of' q
    obtain ⟨cl, a1, a2, a3⟩ := W.1 k _ hk
    have hv : cl.slots[i.toNatClampNeg]? = some (.long (gj σ k (nx i))) := by rw [q2]; exact a3 _ q1
    obtain ⟨s₂, o', st, r⟩ := κ q x hx T locs rl X W O N f L
    exact ⟨s₂, o', X.laload hc.1 a1.1 (State.isArrayOf_alike hc.2.1.alike a1.2.1) a1.2.2 (q3 cl a2) hv (g := mkF m pc rl.toArray (.int i :: .ref (A k) :: St.map (cv A))) rfl rfl (hb hc.2.2.1 hd) _ st, r⟩
  · rw [if_neg q]; exact am_none rfl
theorem am_laload_k {k n : Nat} {i : Int32} (q : inb i n = true) (hd : decode bytes pc = .ok (.laload, 1)) (hc : Cx p s m meth c Z own bytes maxL ret mn) (hk : w k = some (.inr (.long, n, none)))
    (κ : OkR p l e R s m args below meth c Z C fs n0 h0 F A w cells slots (pc + 1) Ls (.long (gj σ k (nx i)) :: St) σ t) : OkR p l e R s m args below meth c Z C fs n0 h0 F A w cells slots pc Ls (.int i :: .ref k :: St) σ t := by
  have := am_laload hd hc hk fun _ => κ
  rw [if_pos q] at this; exact this
theorem am_baloadB {k n : Nat} {i : Int32} (hd : decode bytes pc = .ok (.baload, 1)) (hc : Cx p s m meth c Z own bytes maxL ret mn) (hk : w k = some (.inr (.byte, n, none)))
    (κ : inb i n = true → OkR p l e R s m args below meth c Z C fs n0 h0 F A w cells slots (pc + 1) Ls (.int (gi σ k (nx i)) :: St) σ t) : OkR p l e R s m args below meth c Z C fs n0 h0 F A w cells slots pc Ls (.int i :: .ref k :: St) σ (if inb i n = true then t else none) := by
  by_cases q : inb i n = true
  · rw [if_pos q]
    intro x hx T locs rl X W O N f L
    obtain ⟨q1, q2, q3⟩ := inb_of' q
    obtain ⟨cl, a1, a2, a3⟩ := W.1 k _ hk
    have hv : cl.slots[i.toNatClampNeg]? = some (.int (gi σ k (nx i))) := by rw [q2]; exact a3 _ q1
    obtain ⟨s₂, o', st, r⟩ := κ q x hx T locs rl X W O N f L
    exact ⟨s₂, o', X.baloadBytes hc.1 a1.1 (State.isArrayOf_alike hc.2.1.alike a1.2.1) a1.2.2 (q3 cl a2) hv (g := mkF m pc rl.toArray (.int i :: .ref (A k) :: St.map (cv A))) rfl rfl (hb hc.2.2.1 hd) _ st, r⟩
  · rw [if_neg q]; exact am_none rfl
theorem am_baloadB_k {k n : Nat} {i : Int32} (q : inb i n = true) (hd : decode bytes pc = .ok (.baload, 1)) (hc : Cx p s m meth c Z own bytes maxL ret mn) (hk : w k = some (.inr (.byte, n, none)))
    (κ : OkR p l e R s m args below meth c Z C fs n0 h0 F A w cells slots (pc + 1) Ls (.int (gi σ k (nx i)) :: St) σ t) : OkR p l e R s m args below meth c Z C fs n0 h0 F A w cells slots pc Ls (.int i :: .ref k :: St) σ t := by
  have := am_baloadB hd hc hk fun _ => κ
  rw [if_pos q] at this; exact this
theorem am_baloadZ {k n : Nat} {i : Int32} (hd : decode bytes pc = .ok (.baload, 1)) (hc : Cx p s m meth c Z own bytes maxL ret mn) (hk : w k = some (.inr (.boolean, n, none)))
    (κ : inb i n = true → OkR p l e R s m args below meth c Z C fs n0 h0 F A w cells slots (pc + 1) Ls (.int (gi σ k (nx i)) :: St) σ t) : OkR p l e R s m args below meth c Z C fs n0 h0 F A w cells slots pc Ls (.int i :: .ref k :: St) σ (if inb i n = true then t else none) := by
  by_cases q : inb i n = true
  · rw [if_pos q]
    intro x hx T locs rl X W O N f L
    obtain ⟨q1, q2, q3⟩ := inb_of' q
    obtain ⟨cl, a1, a2, a3⟩ := W.1 k _ hk
    have hv : cl.slots[i.toNatClampNeg]? = some (.int (gi σ k (nx i))) := by rw [q2]; exact a3 _ q1
    obtain ⟨s₂, o', st, r⟩ := κ q x hx T locs rl X W O N f L
    exact ⟨s₂, o', X.baloadBooleans hc.1 a1.1 (State.isArrayOf_alike hc.2.1.alike a1.2.1) a1.2.2 (q3 cl a2) hv (g := mkF m pc rl.toArray (.int i :: .ref (A k) :: St.map (cv A))) rfl rfl (hb hc.2.2.1 hd) _ st, r⟩
  · rw [if_neg q]; exact am_none rfl
theorem am_baloadZ_k {k n : Nat} {i : Int32} (q : inb i n = true) (hd : decode bytes pc = .ok (.baload, 1)) (hc : Cx p s m meth c Z own bytes maxL ret mn) (hk : w k = some (.inr (.boolean, n, none)))
    (κ : OkR p l e R s m args below meth c Z C fs n0 h0 F A w cells slots (pc + 1) Ls (.int (gi σ k (nx i)) :: St) σ t) : OkR p l e R s m args below meth c Z C fs n0 h0 F A w cells slots pc Ls (.int i :: .ref k :: St) σ t := by
  have := am_baloadZ hd hc hk fun _ => κ
  rw [if_pos q] at this; exact this
theorem am_iastore {k n : Nat} {i : Int32} {x y : Int32} (hy : x = y) (hd : decode bytes pc = .ok (.iastore, 1)) (hc : Cx p s m meth c Z own bytes maxL ret mn) (hk : w k = some (.inr (.int, n, none)))
    (κ : inb i n = true → OkR p l e R s m args below meth c Z C fs n0 h0 F A w cells slots (pc + 1) Ls St (si σ k (nx i) y) t) : OkR p l e R s m args below meth c Z C fs n0 h0 F A w cells slots pc Ls (.int x :: .int i :: .ref k :: St) σ (if inb i n = true then t else none) := by
  by_cases q : inb i n = true
  · rw [if_pos q]
    intro x' hx T locs rl X W O N f L
    obtain ⟨q1, q2, q3⟩ := inb_of' q
    obtain ⟨cl, a1, a2, a3⟩ := W.1 k _ hk
    obtain ⟨T', h', X', e', Q, st'⟩ := stI X hc.1 hc.2.1 rfl a1 (q3 cl a2) (g := mkF m pc rl.toArray (.int x :: .int i :: .ref (A k) :: St.map (cv A))) rfl rfl (hb hc.2.2.1 hd)
    subst e'
    have W' : Wd Z C fs T'.heap A w (si σ k (nx i) y) := by
      refine W.write hk Q (si_off _ _ _ _) ⟨_, a1.same Q, by rw [sz_set]; exact a2, fun j hj => ?_⟩
      subst hy
      simp only [Cell.setSlot, aeo, ae]
      rw [q2]
      by_cases ej : j = nx i
      · subst ej
        rw [Array.getElem?_setIfInBounds_self_of_lt (by omega)]
        simp [gi_si, gj_sj, nar]
      · rw [Array.getElem?_setIfInBounds_ne (Ne.symm ej)]
        rw [a3 j hj]
        simp [aeo, ae, gi_si, gj_sj, ej]
    obtain ⟨s₂, o', st, r⟩ := κ q x' hx T' _ rl X' W' (O.write hk rfl Q) N (Fr.snoc X' f (N k _ hk rfl)) L
    exact ⟨s₂, o', st' _ st, r⟩
  · rw [if_neg q]; exact am_none rfl
theorem am_iastore_k {k n : Nat} {i : Int32} {x y : Int32} (q : inb i n = true) (hy : x = y) (hd : decode bytes pc = .ok (.iastore, 1)) (hc : Cx p s m meth c Z own bytes maxL ret mn) (hk : w k = some (.inr (.int, n, none)))
    (κ : OkR p l e R s m args below meth c Z C fs n0 h0 F A w cells slots (pc + 1) Ls St (si σ k (nx i) y) t) : OkR p l e R s m args below meth c Z C fs n0 h0 F A w cells slots pc Ls (.int x :: .int i :: .ref k :: St) σ t := by
  have := am_iastore hy hd hc hk fun _ => κ
  rw [if_pos q] at this; exact this
theorem am_lastore {k n : Nat} {i : Int32} {x y : Int64} (hy : x = y) (hd : decode bytes pc = .ok (.lastore, 1)) (hc : Cx p s m meth c Z own bytes maxL ret mn) (hk : w k = some (.inr (.long, n, none)))
    (κ : inb i n = true → OkR p l e R s m args below meth c Z C fs n0 h0 F A w cells slots (pc + 1) Ls St (sj σ k (nx i) y) t) : OkR p l e R s m args below meth c Z C fs n0 h0 F A w cells slots pc Ls (.long x :: .int i :: .ref k :: St) σ (if inb i n = true then t else none) := by
  by_cases q : inb i n = true
  · rw [if_pos q]
    intro x' hx T locs rl X W O N f L
    obtain ⟨q1, q2, q3⟩ := inb_of' q
    obtain ⟨cl, a1, a2, a3⟩ := W.1 k _ hk
    obtain ⟨T', h', X', e', Q, st'⟩ := stJ X hc.1 hc.2.1 rfl a1 (q3 cl a2) (g := mkF m pc rl.toArray (.long x :: .int i :: .ref (A k) :: St.map (cv A))) rfl rfl (hb hc.2.2.1 hd)
    subst e'
    have W' : Wd Z C fs T'.heap A w (sj σ k (nx i) y) := by
      refine W.write hk Q (sj_off _ _ _ _) ⟨_, a1.same Q, by rw [sz_set]; exact a2, fun j hj => ?_⟩
      subst hy
      simp only [Cell.setSlot, aeo, ae]
      rw [q2]
      by_cases ej : j = nx i
      · subst ej
        rw [Array.getElem?_setIfInBounds_self_of_lt (by omega)]
        simp [gi_si, gj_sj, nar]
      · rw [Array.getElem?_setIfInBounds_ne (Ne.symm ej)]
        rw [a3 j hj]
        simp [aeo, ae, gi_si, gj_sj, ej]
    obtain ⟨s₂, o', st, r⟩ := κ q x' hx T' _ rl X' W' (O.write hk rfl Q) N (Fr.snoc X' f (N k _ hk rfl)) L
    exact ⟨s₂, o', st' _ st, r⟩
  · rw [if_neg q]; exact am_none rfl
theorem am_lastore_k {k n : Nat} {i : Int32} {x y : Int64} (q : inb i n = true) (hy : x = y) (hd : decode bytes pc = .ok (.lastore, 1)) (hc : Cx p s m meth c Z own bytes maxL ret mn) (hk : w k = some (.inr (.long, n, none)))
    (κ : OkR p l e R s m args below meth c Z C fs n0 h0 F A w cells slots (pc + 1) Ls St (sj σ k (nx i) y) t) : OkR p l e R s m args below meth c Z C fs n0 h0 F A w cells slots pc Ls (.long x :: .int i :: .ref k :: St) σ t := by
  have := am_lastore hy hd hc hk fun _ => κ
  rw [if_pos q] at this; exact this
theorem am_bastoreB {k n : Nat} {i : Int32} {x y : Int32} (hy : x.toInt8.toInt32 = y) (hd : decode bytes pc = .ok (.bastore, 1)) (hc : Cx p s m meth c Z own bytes maxL ret mn) (hk : w k = some (.inr (.byte, n, none)))
    (κ : inb i n = true → OkR p l e R s m args below meth c Z C fs n0 h0 F A w cells slots (pc + 1) Ls St (si σ k (nx i) y) t) : OkR p l e R s m args below meth c Z C fs n0 h0 F A w cells slots pc Ls (.int x :: .int i :: .ref k :: St) σ (if inb i n = true then t else none) := by
  by_cases q : inb i n = true
  · rw [if_pos q]
    intro x' hx T locs rl X W O N f L
    obtain ⟨q1, q2, q3⟩ := inb_of' q
    obtain ⟨cl, a1, a2, a3⟩ := W.1 k _ hk
    obtain ⟨T', h', X', e', Q, st'⟩ := stB X hc.1 hc.2.1 rfl a1 (q3 cl a2) (g := mkF m pc rl.toArray (.int x :: .int i :: .ref (A k) :: St.map (cv A))) rfl rfl (hb hc.2.2.1 hd)
    subst e'
    have W' : Wd Z C fs T'.heap A w (si σ k (nx i) y) := by
      refine W.write hk Q (si_off _ _ _ _) ⟨_, a1.same Q, by rw [sz_set]; exact a2, fun j hj => ?_⟩
      subst hy
      simp only [Cell.setSlot, aeo, ae]
      rw [q2]
      by_cases ej : j = nx i
      · subst ej
        rw [Array.getElem?_setIfInBounds_self_of_lt (by omega)]
        simp [gi_si, gj_sj, nar]
      · rw [Array.getElem?_setIfInBounds_ne (Ne.symm ej)]
        rw [a3 j hj]
        simp [aeo, ae, gi_si, gj_sj, ej]
    obtain ⟨s₂, o', st, r⟩ := κ q x' hx T' _ rl X' W' (O.write hk rfl Q) N (Fr.snoc X' f (N k _ hk rfl)) L
    exact ⟨s₂, o', st' _ st, r⟩
  · rw [if_neg q]; exact am_none rfl
theorem am_bastoreB_k {k n : Nat} {i : Int32} {x y : Int32} (q : inb i n = true) (hy : x.toInt8.toInt32 = y) (hd : decode bytes pc = .ok (.bastore, 1)) (hc : Cx p s m meth c Z own bytes maxL ret mn) (hk : w k = some (.inr (.byte, n, none)))
    (κ : OkR p l e R s m args below meth c Z C fs n0 h0 F A w cells slots (pc + 1) Ls St (si σ k (nx i) y) t) : OkR p l e R s m args below meth c Z C fs n0 h0 F A w cells slots pc Ls (.int x :: .int i :: .ref k :: St) σ t := by
  have := am_bastoreB hy hd hc hk fun _ => κ
  rw [if_pos q] at this; exact this
theorem am_bastoreZ {k n : Nat} {i : Int32} {x y : Int32} (hy : x &&& 1 = y) (hd : decode bytes pc = .ok (.bastore, 1)) (hc : Cx p s m meth c Z own bytes maxL ret mn) (hk : w k = some (.inr (.boolean, n, none)))
    (κ : inb i n = true → OkR p l e R s m args below meth c Z C fs n0 h0 F A w cells slots (pc + 1) Ls St (si σ k (nx i) y) t) : OkR p l e R s m args below meth c Z C fs n0 h0 F A w cells slots pc Ls (.int x :: .int i :: .ref k :: St) σ (if inb i n = true then t else none) := by
  by_cases q : inb i n = true
  · rw [if_pos q]
    intro x' hx T locs rl X W O N f L
    obtain ⟨q1, q2, q3⟩ := inb_of' q
    obtain ⟨cl, a1, a2, a3⟩ := W.1 k _ hk
    obtain ⟨T', h', X', e', Q, st'⟩ := stZ X hc.1 hc.2.1 rfl a1 (q3 cl a2) (g := mkF m pc rl.toArray (.int x :: .int i :: .ref (A k) :: St.map (cv A))) rfl rfl (hb hc.2.2.1 hd)
    subst e'
    have W' : Wd Z C fs T'.heap A w (si σ k (nx i) y) := by
      refine W.write hk Q (si_off _ _ _ _) ⟨_, a1.same Q, by rw [sz_set]; exact a2, fun j hj => ?_⟩
      subst hy
      simp only [Cell.setSlot, aeo, ae]
      rw [q2]
      by_cases ej : j = nx i
      · subst ej
        rw [Array.getElem?_setIfInBounds_self_of_lt (by omega)]
        simp [gi_si, gj_sj, nar]
      · rw [Array.getElem?_setIfInBounds_ne (Ne.symm ej)]
        rw [a3 j hj]
        simp [aeo, ae, gi_si, gj_sj, ej]
    obtain ⟨s₂, o', st, r⟩ := κ q x' hx T' _ rl X' W' (O.write hk rfl Q) N (Fr.snoc X' f (N k _ hk rfl)) L
    exact ⟨s₂, o', st' _ st, r⟩
  · rw [if_neg q]; exact am_none rfl
theorem am_bastoreZ_k {k n : Nat} {i : Int32} {x y : Int32} (q : inb i n = true) (hy : x &&& 1 = y) (hd : decode bytes pc = .ok (.bastore, 1)) (hc : Cx p s m meth c Z own bytes maxL ret mn) (hk : w k = some (.inr (.boolean, n, none)))
    (κ : OkR p l e R s m args below meth c Z C fs n0 h0 F A w cells slots (pc + 1) Ls St (si σ k (nx i) y) t) : OkR p l e R s m args below meth c Z C fs n0 h0 F A w cells slots pc Ls (.int x :: .int i :: .ref k :: St) σ t := by
  have := am_bastoreZ hy hd hc hk fun _ => κ
  rw [if_pos q] at this; exact this
theorem am_alen {k n : Nat} {ty : FieldType} {o : Option (Nat → Int32)} (hd : decode bytes pc = .ok (.arraylength, 1)) (hc : Cx p s m meth c Z own bytes maxL ret mn) (hk : w k = some (.inr (ty, n, o)))
    (κ : OkR p l e R s m args below meth c Z C fs n0 h0 F A w cells slots (pc + 1) Ls (.int n.toInt32 :: St) σ t) : OkR p l e R s m args below meth c Z C fs n0 h0 F A w cells slots pc Ls (.ref k :: St) σ t := by
  intro x hx T locs rl X W O N f L
  obtain ⟨cl, a1, a2, a3⟩ := W.1 k _ hk
  subst a2
  obtain ⟨s₂, o', st, r⟩ := κ x hx T locs rl X W O N f L
  exact ⟨s₂, o', X.arraylength hc.1 a1.1 (State.isArrayOf_alike hc.2.1.alike a1.2.1) (g := mkF m pc rl.toArray (.ref (A k) :: St.map (cv A))) rfl rfl (hb hc.2.2.1 hd) _ st, r⟩
theorem am_irem {x y : Int32} (hd : decode bytes pc = .ok (.irem, 1)) (hc : Cx p s m meth c Z own bytes maxL ret mn)
    (κ : y ≠ 0 → OkR p l e R s m args below meth c Z C fs n0 h0 F A w cells slots (pc + 1) Ls (.int (x % y) :: St) σ t) : OkR p l e R s m args below meth c Z C fs n0 h0 F A w cells slots pc Ls (.int y :: .int x :: St) σ (if y = 0 then none else t) := by
  by_cases q : y = 0
  · rw [if_pos q]; exact am_none rfl
  · rw [if_neg q]
    intro x' hx T locs rl X W O N f L
    obtain ⟨s₂, o', st, r⟩ := κ q x' hx T locs rl X W O N f L
    exact ⟨s₂, o', iremM X hc.1 rfl (hb hc.2.2.1 hd) rfl q st, r⟩
theorem am_idiv {x y : Int32} (hd : decode bytes pc = .ok (.idiv, 1)) (hc : Cx p s m meth c Z own bytes maxL ret mn)
    (κ : y ≠ 0 → OkR p l e R s m args below meth c Z C fs n0 h0 F A w cells slots (pc + 1) Ls (.int (x / y) :: St) σ t) : OkR p l e R s m args below meth c Z C fs n0 h0 F A w cells slots pc Ls (.int y :: .int x :: St) σ (if y = 0 then none else t) := by
  by_cases q : y = 0
  · rw [if_pos q]; exact am_none rfl
  · rw [if_neg q]
    intro x' hx T locs rl X W O N f L
    obtain ⟨s₂, o', st, r⟩ := κ q x' hx T locs rl X W O N f L
    exact ⟨s₂, o', XS.idiv X.here hc.1 rfl (hb hc.2.2.1 hd) rfl q st, r⟩
theorem am_retI {z : Int32} {a : α} (hd : decode bytes pc = .ok (.ireturn, 1)) (hc : Cx p s m meth c Z own bytes maxL (some .int) mn) (hcs : cells ≤ R.cells) (hsl : slots ≤ R.slots) (hF : ∀ h, Wd Z C fs h A w σ → Out h0 h A w → F a (some (.int z)) h) : OkR p l e R s m args below meth c Z C fs n0 h0 F A w cells slots pc Ls (.int z :: St) σ (some a) := by
  intro x' hx T locs rl X W O N f L
  cases hx
  obtain ⟨fs', hr, hrun, hended, hW, hsame⟩ := X.leave (v := some (.int z)) (fun h => by rw [hc.2.2.2.2.2.1] at h; cases h) hc.2.2.2.2.2.2.1
  exact ⟨_, _, retOut X hc.1 hc.2.2.2.2.2.1 rfl (Or.inl ⟨rfl, Or.inl rfl, z, rfl⟩) (hb hc.2.2.1 hd) hr, hrun, hended, _, locs, rfl, ⟨hF _ W O, f⟩, ⟨_, rfl⟩, hW, hsame.mono hcs hsl⟩
theorem am_retZ {z : Int32} {a : α} (hd : decode bytes pc = .ok (.ireturn, 1)) (hc : Cx p s m meth c Z own bytes maxL (some .boolean) mn) (hcs : cells ≤ R.cells) (hsl : slots ≤ R.slots) (hF : ∀ h, Wd Z C fs h A w σ → Out h0 h A w → F a (some (.int (z &&& 1))) h) : OkR p l e R s m args below meth c Z C fs n0 h0 F A w cells slots pc Ls (.int z :: St) σ (some a) := by
  intro x' hx T locs rl X W O N f L
  cases hx
  obtain ⟨fs', hr, hrun, hended, hW, hsame⟩ := X.leave (v := some (.int (z &&& 1))) (fun h => by rw [hc.2.2.2.2.2.1] at h; cases h) hc.2.2.2.2.2.2.1
  exact ⟨_, _, retN X hc.1 (t := .boolean) hc.2.2.2.2.2.1 (Or.inl rfl) (hb hc.2.2.1 hd) hr, hrun, hended, _, locs, rfl, ⟨hF _ W O, f⟩, ⟨_, rfl⟩, hW, hsame.mono hcs hsl⟩
theorem am_retJ {z : Int64} {a : α} (hd : decode bytes pc = .ok (.lreturn, 1)) (hc : Cx p s m meth c Z own bytes maxL (some .long) mn) (hcs : cells ≤ R.cells) (hsl : slots ≤ R.slots) (hF : ∀ h, Wd Z C fs h A w σ → Out h0 h A w → F a (some (.long z)) h) : OkR p l e R s m args below meth c Z C fs n0 h0 F A w cells slots pc Ls (.long z :: St) σ (some a) := by
  intro x' hx T locs rl X W O N f L
  cases hx
  obtain ⟨fs', hr, hrun, hended, hW, hsame⟩ := X.leave (v := some (.long z)) (fun h => by rw [hc.2.2.2.2.2.1] at h; cases h) hc.2.2.2.2.2.2.1
  exact ⟨_, _, retOut X hc.1 hc.2.2.2.2.2.1 rfl (Or.inr (Or.inl ⟨rfl, rfl, z, rfl⟩)) (hb hc.2.2.1 hd) hr, hrun, hended, _, locs, rfl, ⟨hF _ W O, f⟩, ⟨_, rfl⟩, hW, hsame.mono hcs hsl⟩
theorem am_retV {a : α} (hd : decode bytes pc = .ok (.return_, 1)) (hc : Cx p s m meth c Z own bytes maxL (none) mn) (hcs : cells ≤ R.cells) (hsl : slots ≤ R.slots) (hF : ∀ h, Wd Z C fs h A w σ → Out h0 h A w → F a (none) h) : OkR p l e R s m args below meth c Z C fs n0 h0 F A w cells slots pc Ls [] σ (some a) := by
  intro x' hx T locs rl X W O N f L
  cases hx
  obtain ⟨fs', hr, hrun, hended, hW, hsame⟩ := X.leave (v := none) (fun _ => rfl) hc.2.2.2.2.2.2.1
  exact ⟨_, _, X.returnOut hc.1 hc.2.2.2.2.2.1 (hb hc.2.2.1 hd) hr, hrun, hended, _, locs, rfl, ⟨hF _ W O, f⟩, ⟨_, rfl⟩, hW, hsame.mono hcs hsl⟩

def wkL : List Slot → List Slot → Prop
  | [], [] => True
  | .val v :: l, x :: l' => x = .val v ∧ wkL l l'
  | .unset :: l, _ :: l' => wkL l l'
  | .second :: l, _ :: l' => wkL l l'
  | _, _ => False
theorem wkL_ok : ∀ {l l' : List Slot}, wkL l l' → l.length = l'.length ∧ ∀ (k : Nat) (v : Value), l[k]? = some (.val v) → l'[k]? = some (.val v)
  | [], [], _ => ⟨rfl, fun k v h => by simp at h⟩
  | .val u :: l, x :: l', h => by
    obtain ⟨h1, h2⟩ := h
    obtain ⟨a, b⟩ := wkL_ok h2
    refine ⟨by simp [a], fun k v q => ?_⟩
    cases k with
    | zero => simp at q ⊢; rw [h1, q]
    | succ k => rw [List.getElem?_cons_succ] at q ⊢; exact b k v q
  | .unset :: l, x :: l', h => by
    obtain ⟨a, b⟩ := wkL_ok (show wkL l l' from h)
    refine ⟨by simp [a], fun k v q => ?_⟩
    cases k with
    | zero => simp at q
    | succ k => rw [List.getElem?_cons_succ] at q ⊢; exact b k v q
  | .second :: l, x :: l', h => by
    obtain ⟨a, b⟩ := wkL_ok (show wkL l l' from h)
    refine ⟨by simp [a], fun k v q => ?_⟩
    cases k with
    | zero => simp at q
    | succ k => rw [List.getElem?_cons_succ] at q ⊢; exact b k v q
theorem am_wk (h : wkL Ls' Ls) (κ : OkR p l e R s m args below meth c Z C fs n0 h0 F A w cells slots pc Ls' St σ t) : OkR p l e R s m args below meth c Z C fs n0 h0 F A w cells slots pc Ls St σ t := by
  intro x' hx T locs rl X W O N f L
  obtain ⟨a, b⟩ := wkL_ok h
  exact κ x' hx T locs rl X W O N f ⟨by rw [L.1, a], L.2.1, fun k v q => L.2.2 k v (b k v q)⟩

/-! calls -/
def FM (Z : State) (C : String) (fs : FS) (A : Nat → Addr) (w : Nat → Option CD) (h0 : Heap) (g : α → Option Value × Sg) : α → Option Value → Heap → Prop := fun x v h => v = (g x).1.map (cv A) ∧ Wd Z C fs h A w (g x).2 ∧ Out h0 h A w
def Con (l : Launch) (Z : State) (C : String) (fs : FS) (y : MethodName) (bytes : ByteArray) (maxL : Nat) (ret : Option FieldType) (rm : Room) (w : Nat → Option CD) (as : List Value) (σ : Sg) (v : Option Value) (σ' : Sg) : Prop :=
  ∀ (A : Nat → Addr) (n0 : Nat) (h : Heap) (ws : List Jvm.Cond), Wd Z C fs h A w σ → Nw n0 A w →
    MetFree l y (head1 (Jvm.Cond.code y bytes maxL ret :: ws) rm) (fun a U => a = (as.map (cv A)).toArray ∧ Z.Warmed39 U.vm ∧ U.heap = h) (fun _ _ _ _ _ => True) (fun _ U o U' => ∃ v' L, o = .returned v' ∧ ((v' = v.map (cv A) ∧ Wd Z C fs U'.heap A w σ' ∧ Out h U'.heap A w) ∧ Fr n0 L) ∧ FrameEnd U o U' L rm.cells rm.slots)
theorem am_met {y : MethodName} {rm : Room} {ws : List Jvm.Cond} {as : List Value} {h : Heap} {x : α} (pn : plainName y.cls = true) (ht : t = some x) (W : Wd Z C fs h A w σ) (N : Nw n0 A w)
    (H : ∀ (p : Program) (e : Env) (s : State) (m : MethodId) (below : List Frame) (meth : Method) (c : Code), Cx p s m meth c Z y.cls bytes maxL ret y.name → OkR p l e rm s m (as.map (cv A)).toArray below meth c Z C fs n0 h F A w 0 0 0 (entL as maxL) [] σ t) :
    MetFree l y (head1 (Jvm.Cond.code y bytes maxL ret :: ws) rm) (fun a U => a = (as.map (cv A)).toArray ∧ Z.Warmed39 U.vm ∧ U.heap = h) (fun _ _ _ _ _ => True) (fun _ U o U' => ∃ v L, o = .returned v ∧ (F x v U'.heap ∧ Fr n0 L) ∧ FrameEnd U o U' L rm.cells rm.slots) := by
  refine MetFree.of_bodySF (plainFor_of_name pn) hisR ?_
  intro p e s m args below meth c s₁ Bd hml0 hP hK
  obtain ⟨rfl, hZ, hh⟩ := hP
  have e0 : s₁.heap = h := by rw [← hh, Bd.state]; rfl
  obtain ⟨s₂, o, st, r⟩ := H p e s m below meth c ⟨Bd.exec, hZ, Bd.bytes, findClass_of_methodNamed Bd.named, hml0, Bd.returns, Bd.notSynchronized, (name_of_methodNamed Bd.named Bd.method).1⟩ x ht s₁ [] _ (Stand.of_body Bd) (by rw [e0]; exact W) (by rw [e0]; exact Out.refl _ _ _) N (Fr.nil n0) (entL_ok A as maxL)
  refine ⟨s₂, o, castTop ?_ st, r⟩
  simp only [entryFrame, mkF, List.map_nil, entL_arr]
theorem am_con {y : MethodName} {rm : Room} {as : List Value} {g : α → Option Value × Sg} (pn : plainName y.cls = true)
    (H : ∀ (p : Program) (e : Env) (s : State) (m : MethodId) (below : List Frame) (meth : Method) (c : Code) (A : Nat → Addr) (n0 : Nat) (h : Heap), Cx p s m meth c Z y.cls bytes maxL ret y.name → OkR p l e rm s m (as.map (cv A)).toArray below meth c Z C fs n0 h (FM Z C fs A w h g) A w 0 0 0 (entL as maxL) [] σ t) :
    ∀ x, t = some x → Con l Z C fs y bytes maxL ret rm w as σ (g x).1 (g x).2 :=
  fun x ht A n0 h ws W N => am_met pn ht W N fun p e s m below meth c hc => H p e s m below meth c A n0 h hc
def SubW (wc w : Nat → Option CD) : Prop := (∀ k d, wc k = some d → w k = some d) ∧ ∀ k d, w k = some d → wc k = some d ∨ wrb d = false
theorem SubW.refl (w : Nat → Option CD) : SubW w w := ⟨fun _ _ h => h, fun _ _ h => Or.inl h⟩
theorem SubW.wd {wc : Nat → Option CD} {h : Heap} (S : SubW wc w) (W : Wd Z C fs h A w σ) : Wd Z C fs h A wc σ := ⟨fun k d q => W.1 k d (S.1 k d q), fun k k' d d' q q' => W.2 k k' d d' (S.1 k d q) (S.1 k' d' q')⟩
theorem SubW.back {wc : Nat → Option CD} {h h' : Heap} (S : SubW wc w) (W : Wd Z C fs h A w σ) (W' : Wd Z C fs h' A wc σ') (O : Out h h' A wc) : Wd Z C fs h' A w σ' := by
  refine ⟨fun k d q => ?_, W.2⟩
  rcases S.2 k d q with z | z
  · exact W'.1 k d z
  · rcases d with q' | ⟨ty, n, o⟩
    · cases z
    · cases o with
      | none => cases z
      | some f =>
        obtain ⟨cl, a1, a2, a3⟩ := W.1 k _ q
        have := O.2 (A k) cl a1.1 fun k' d' q1 q2 e => by
          have := W.2 _ _ _ _ (S.1 _ _ q1) q e
          subst this
          have := S.1 _ _ q1
          rw [q] at this; cases this; cases q2
        exact ⟨cl, ⟨this, a1.2⟩, a2, a3⟩
theorem Out.trans' {wc : Nat → Option CD} {h h' : Heap} (S : SubW wc w) (O : Out h0 h A w) (O' : Out h h' A wc) : Out h0 h' A w := ⟨Nat.le_trans O.1 O'.1, fun b c q n => O'.2 b c (O.2 b c q n) fun k d q1 q2 => n k d (S.1 k d q1) q2⟩
def notMH (y : MethodName) : Prop := y.cls ≠ "java/lang/invoke/MethodHandle" ∧ y.cls ≠ "java/lang/invoke/VarHandle"
def LkP (Z : State) (a0 : Array Value) (own : String) (i : Nat) (y : MethodName) (b : ByteArray) (mL : Nat) (rt : Option FieldType) : Prop := (Cond.methodLink own i y).before a0 Z = true ∧ (Cond.instanceMethod y).before a0 Z = true ∧ (Cond.code y b mL rt).before a0 Z = true ∧ (Cond.initialized y.cls).before a0 Z = true ∧ notMH y ∧ (Cond.privateMethod y).before a0 Z = true
def LkV (Z : State) (a0 : Array Value) (own : String) (i : Nat) (y : MethodName) (b : ByteArray) (mL : Nat) (rt : Option FieldType) : Prop := (Cond.methodLink own i y).before a0 Z = true ∧ (Cond.instanceMethod y).before a0 Z = true ∧ (Cond.code y b mL rt).before a0 Z = true ∧ (Cond.initialized y.cls).before a0 Z = true ∧ notMH y ∧ (Cond.declares y).before a0 Z = true ∧ (Cond.selects y.cls y y).before a0 Z = true
def LkS (Z : State) (a0 : Array Value) (own : String) (i : Nat) (y : MethodName) (b : ByteArray) (mL : Nat) (rt : Option FieldType) : Prop := (Cond.methodLink own i y).before a0 Z = true ∧ (Cond.static y).before a0 Z = true ∧ (Cond.code y b mL rt).before a0 Z = true ∧ (Cond.initialized y.cls).before a0 Z = true ∧ notMH y
def arity (d : String) (n : Nat) : Bool := match parseMethodDescriptor d with
  | some sig => sig.parameters.length == n
  | none => true
theorem arity_ok {d : String} {n : Nat} {L : List Value} (h : arity d n = true) (hl : L.length = n) : ∀ sig, parseMethodDescriptor d = some sig → L.length = sig.parameters.length := fun sig q => by
  simp only [arity, q, beq_iff_eq] at h; omega
def catS (l : List Value) : Nat := (l.map fun v => v.category).sum
theorem catS_map (A : Nat → Addr) (l : List Value) : ((l.map (cv A)).map fun v => v.category).sum = catS l := by
  unfold catS; rw [List.map_map]; congr 1; apply List.map_congr_left; intro v _; exact cv_cat A v
theorem am_callP {y : MethodName} {b : ByteArray} {mL i : Nat} {rt : Option FieldType} {rm : Room} {wc : Nat → Option CD} {argsL rest : List Value} {β : Type} {g : β → Option Value × Sg} {u : Option β} {K : β → Option α} {W0 : Nat} {k q : Nat} (hk : wc k = some (.inl q)) (hl : LkP Z a0 own i y b mL rt) (hyc : y.cls = C) (wi : (Cond.instantiable C kk).before a0 Z = true) (hd : decode bytes pc = .ok (.invokevirtual i, 3)) (hc : Cx p s m meth c Z own bytes maxL ret mn) (hS : SubW wc w) (hst : St = argsL.reverse ++ .ref k :: rest) (har : arity y.desc argsL.length = true)
    (hcon : ∀ x, u = some x → Con l Z C fs y b mL rt rm wc (.ref k :: argsL) σ (g x).1 (g x).2) (hm : Ls.length = maxL) (hrm : rm.frames + 1 ≤ R.frames ∧ W0 + (mL + 11) + rm.locals ≤ R.locals ∧ catS rest ≤ W0 ∧ rm.cells = 0 ∧ rm.slots = 0 ∧ cells ≤ R.cells ∧ slots ≤ R.slots)
    (κ : ∀ x, u = some x → OkR p l e R s m args below meth c Z C fs n0 h0 F A w cells slots (pc + 3) Ls ((g x).1.toList ++ rest) (g x).2 (K x)) : OkR p l e R s m args below meth c Z C fs n0 h0 F A w cells slots pc Ls St σ (u.bind K) := by
  subst hst
  intro x' hx T locs rl X W O N f L
  obtain ⟨r1, r2, r3, r4, r5, r6, r7⟩ := hrm
  cases hu : u with
  | none => rw [hu] at hx; cases hx
  | some y0 =>
    rw [hu] at hx
    have hx' : K y0 = some x' := hx
    have Wc := hS.wd W
    have Nc : Nw n0 A wc := fun k d q1 q2 => N k d (hS.1 k d q1) q2
    have hM := hcon y0 hu A n0 T.heap [] Wc Nc
    have hB := backOf (h := T.heap) (Q := fun v h' L => (v = Option.map (cv A) (g y0).1 ∧ Wd Z C fs h' A wc (g y0).2 ∧ Out T.heap h' A wc) ∧ Fr n0 L) (W := W0) (R := R) (p := p) (e := e) (below := below) (s := s) (args := args) (len := 3) hM hc.2.1 hl.2.2.1 hl.2.2.2.1 r1 r2
    have hsz : (mkF m pc rl.toArray (List.map (cv A) (argsL.reverse ++ .ref k :: rest))).locals.size = c.maxLocals := by show rl.toArray.size = _; rw [List.size_toArray, L.1, hm, hc.2.2.2.2.1]
    obtain ⟨cc, kc, i1, i2, -, i4, -⟩ := Cond.instantiable_spec (mv (args := #[]) hc.2.1 wi)
    have hsel := selects_self_of_private (s := s) (args := args) (y := y) (by rw [hyc]; exact i1) i2 (Bool.or_eq_false_iff.mp i4).1 (Cond.privateMethod_at (mvP hc.2.1 hl.2.2.2.2.2 (args := #[]))) (mv hc.2.1 hl.2.1) hl.2.2.2.2.1
    obtain ⟨cl, q1, q2⟩ := (Wc.1 k _ hk).1.cell
    obtain ⟨v, _, ⟨T1, L1, k1, n1⟩, -, X1, ⟨Lc, hQ, l1, c1, s1⟩, st⟩ := X.privateBack hc.1 hc.2.2.2.1 (mv hc.2.1 hl.1) (mv hc.2.1 hl.2.1) hsel (Cond.privateMethod_at (mvP hc.2.1 hl.2.2.2.2.2 (args := #[]))) (mv hc.2.1 hl.2.2.1) hl.2.2.2.2.1 hB (g := mkF m pc rl.toArray (List.map (cv A) (argsL.reverse ++ .ref k :: rest))) rfl hsz (Steps.refl _) (a := A k) q1 q2 (argsL := argsL.map (cv A)) (rest := rest.map (cv A)) (arity_ok har (by simp)) (by simp [cv]) (by show 2 * 0 + _ ≤ W0; rw [catS_map]; omega) (hb hc.2.2.1 hd) (fun _ _ => ⟨by simp [cv], rfl, by dsimp only [Pt.cells]; omega, by dsimp only [Pt.slots]; omega⟩)
    dsimp only [Pt.U, Pt.locs, Pt.cells, Pt.slots] at X1 l1 c1 s1 st hQ
    obtain ⟨⟨v1, W1, O1⟩, N1⟩ := hQ
    rw [r4, Nat.add_zero] at c1
    rw [r5, Nat.add_zero] at s1
    subst l1 c1 s1
    obtain ⟨s₂, o', st2, r⟩ := κ y0 hu x' hx' T1 _ rl X1 (hS.back W W1 O1) (Out.trans' hS O O1) N (Fr.app f N1) L
    have ev : (g y0).1.map (cv A) = v := v1.symm
    have e3 : List.map (cv A) ((g y0).1.toList ++ rest) = v.toList ++ rest.map (cv A) := by rw [List.map_append, ← ev]; cases (g y0).1 <;> rfl
    rw [e3] at st2
    exact ⟨s₂, o', st.trans st2, r⟩
theorem am_callV {y : MethodName} {b : ByteArray} {mL i : Nat} {rt : Option FieldType} {rm : Room} {wc : Nat → Option CD} {argsL rest : List Value} {β : Type} {g : β → Option Value × Sg} {u : Option β} {K : β → Option α} {W0 : Nat} {k q : Nat} (hk : wc k = some (.inl q)) (hl : LkV Z a0 own i y b mL rt) (hyc : y.cls = C) (hd : decode bytes pc = .ok (.invokevirtual i, 3)) (hc : Cx p s m meth c Z own bytes maxL ret mn) (hS : SubW wc w) (hst : St = argsL.reverse ++ .ref k :: rest) (har : arity y.desc argsL.length = true)
    (hcon : ∀ x, u = some x → Con l Z C fs y b mL rt rm wc (.ref k :: argsL) σ (g x).1 (g x).2) (hm : Ls.length = maxL) (hrm : rm.frames + 1 ≤ R.frames ∧ W0 + (mL + 11) + rm.locals ≤ R.locals ∧ catS rest ≤ W0 ∧ rm.cells = 0 ∧ rm.slots = 0 ∧ cells ≤ R.cells ∧ slots ≤ R.slots)
    (κ : ∀ x, u = some x → OkR p l e R s m args below meth c Z C fs n0 h0 F A w cells slots (pc + 3) Ls ((g x).1.toList ++ rest) (g x).2 (K x)) : OkR p l e R s m args below meth c Z C fs n0 h0 F A w cells slots pc Ls St σ (u.bind K) := by
  subst hst
  intro x' hx T locs rl X W O N f L
  obtain ⟨r1, r2, r3, r4, r5, r6, r7⟩ := hrm
  cases hu : u with
  | none => rw [hu] at hx; cases hx
  | some y0 =>
    rw [hu] at hx
    have hx' : K y0 = some x' := hx
    have Wc := hS.wd W
    have Nc : Nw n0 A wc := fun k d q1 q2 => N k d (hS.1 k d q1) q2
    have hM := hcon y0 hu A n0 T.heap [] Wc Nc
    have hB := backOf (h := T.heap) (Q := fun v h' L => (v = Option.map (cv A) (g y0).1 ∧ Wd Z C fs h' A wc (g y0).2 ∧ Out T.heap h' A wc) ∧ Fr n0 L) (W := W0) (R := R) (p := p) (e := e) (below := below) (s := s) (args := args) (len := 3) hM hc.2.1 hl.2.2.1 hl.2.2.2.1 r1 r2
    have hsz : (mkF m pc rl.toArray (List.map (cv A) (argsL.reverse ++ .ref k :: rest))).locals.size = c.maxLocals := by show rl.toArray.size = _; rw [List.size_toArray, L.1, hm, hc.2.2.2.2.1]
    obtain ⟨cB, kB, q1, q2, q3⟩ := isOf (T := T) hc.2.1 rfl (Wc.1 k _ hk).1
    obtain ⟨v, _, ⟨T1, L1, k1, n1⟩, -, X1, ⟨Lc, hQ, l1, c1, s1⟩, st⟩ := X.virtualBack hc.1 (C := y.cls) (y := y) (z := y) hc.2.2.2.1 (mv hc.2.1 hl.1) (mv hc.2.1 hl.2.2.2.2.2.1) (notFace_of_selects (args := #[]) (mv hc.2.1 hl.2.2.2.2.2.2)) (mv hc.2.1 hl.2.2.2.2.2.2) (mv hc.2.1 hl.2.1) hl.2.2.2.2.1 hB (by rw [hyc]; exact q1) q3 (g := mkF m pc rl.toArray (List.map (cv A) (argsL.reverse ++ .ref k :: rest))) rfl hsz (Steps.refl _) (argsL := argsL.map (cv A)) (rest := rest.map (cv A)) (arity_ok har (by simp)) (by simp [cv]) (by show 2 * 0 + _ ≤ W0; rw [catS_map]; omega) (hb hc.2.2.1 hd) (fun _ _ => ⟨by simp [cv], rfl, by dsimp only [Pt.cells]; omega, by dsimp only [Pt.slots]; omega⟩)
    dsimp only [Pt.U, Pt.locs, Pt.cells, Pt.slots] at X1 l1 c1 s1 st hQ
    obtain ⟨⟨v1, W1, O1⟩, N1⟩ := hQ
    rw [r4, Nat.add_zero] at c1
    rw [r5, Nat.add_zero] at s1
    subst l1 c1 s1
    obtain ⟨s₂, o', st2, r⟩ := κ y0 hu x' hx' T1 _ rl X1 (hS.back W W1 O1) (Out.trans' hS O O1) N (Fr.app f N1) L
    have ev : (g y0).1.map (cv A) = v := v1.symm
    have e3 : List.map (cv A) ((g y0).1.toList ++ rest) = v.toList ++ rest.map (cv A) := by rw [List.map_append, ← ev]; cases (g y0).1 <;> rfl
    rw [e3] at st2
    exact ⟨s₂, o', st.trans st2, r⟩
theorem am_callS {y : MethodName} {b : ByteArray} {mL i : Nat} {rt : Option FieldType} {rm : Room} {wc : Nat → Option CD} {argsL rest : List Value} {β : Type} {g : β → Option Value × Sg} {u : Option β} {K : β → Option α} {W0 : Nat} (hl : LkS Z a0 own i y b mL rt) (hd : decode bytes pc = .ok (.invokestatic i, 3)) (hc : Cx p s m meth c Z own bytes maxL ret mn) (hS : SubW wc w) (hst : St = argsL.reverse ++ rest) (har : arity y.desc argsL.length = true)
    (hcon : ∀ x, u = some x → Con l Z C fs y b mL rt rm wc argsL σ (g x).1 (g x).2) (hm : Ls.length = maxL) (hrm : rm.frames + 1 ≤ R.frames ∧ W0 + (mL + 11) + rm.locals ≤ R.locals ∧ catS rest ≤ W0 ∧ rm.cells = 0 ∧ rm.slots = 0 ∧ cells ≤ R.cells ∧ slots ≤ R.slots)
    (κ : ∀ x, u = some x → OkR p l e R s m args below meth c Z C fs n0 h0 F A w cells slots (pc + 3) Ls ((g x).1.toList ++ rest) (g x).2 (K x)) : OkR p l e R s m args below meth c Z C fs n0 h0 F A w cells slots pc Ls St σ (u.bind K) := by
  subst hst
  intro x' hx T locs rl X W O N f L
  obtain ⟨r1, r2, r3, r4, r5, r6, r7⟩ := hrm
  cases hu : u with
  | none => rw [hu] at hx; cases hx
  | some y0 =>
    rw [hu] at hx
    have hx' : K y0 = some x' := hx
    have Wc := hS.wd W
    have Nc : Nw n0 A wc := fun k d q1 q2 => N k d (hS.1 k d q1) q2
    have hM := hcon y0 hu A n0 T.heap [] Wc Nc
    have hB := backOf (h := T.heap) (Q := fun v h' L => (v = Option.map (cv A) (g y0).1 ∧ Wd Z C fs h' A wc (g y0).2 ∧ Out T.heap h' A wc) ∧ Fr n0 L) (W := W0) (R := R) (p := p) (e := e) (below := below) (s := s) (args := args) (len := 3) hM hc.2.1 hl.2.2.1 hl.2.2.2.1 r1 r2
    have hsz : (mkF m pc rl.toArray (List.map (cv A) (argsL.reverse ++ rest))).locals.size = c.maxLocals := by show rl.toArray.size = _; rw [List.size_toArray, L.1, hm, hc.2.2.2.2.1]
    obtain ⟨v, _, ⟨T1, L1, k1, n1⟩, -, X1, ⟨Lc, hQ, l1, c1, s1⟩, st⟩ := Jvm.LawKit.callS X hc.1 (y := y) hc.2.2.2.1 (mv hc.2.1 hl.1) (mv hc.2.1 hl.2.1) (mv hc.2.1 hl.2.2.2.1) (mv hc.2.1 hl.2.2.1) hl.2.2.2.2 hB (g := mkF m pc rl.toArray (List.map (cv A) (argsL.reverse ++ rest))) rfl hsz (argsL := argsL.map (cv A)) (rest := rest.map (cv A)) (arity_ok har (by simp)) (by simp) (by show 2 * 0 + _ ≤ W0; rw [catS_map]; omega) (hb hc.2.2.1 hd) (fun _ _ => ⟨by simp [cv], rfl, by dsimp only [Pt.cells]; omega, by dsimp only [Pt.slots]; omega⟩)
    dsimp only [Pt.U, Pt.locs, Pt.cells, Pt.slots] at X1 l1 c1 s1 st hQ
    obtain ⟨⟨v1, W1, O1⟩, N1⟩ := hQ
    rw [r4, Nat.add_zero] at c1
    rw [r5, Nat.add_zero] at s1
    subst l1 c1 s1
    obtain ⟨s₂, o', st2, r⟩ := κ y0 hu x' hx' T1 _ rl X1 (hS.back W W1 O1) (Out.trans' hS O O1) N (Fr.app f N1) L
    have ev : (g y0).1.map (cv A) = v := v1.symm
    have e3 : List.map (cv A) ((g y0).1.toList ++ rest) = v.toList ++ rest.map (cv A) := by rw [List.map_append, ← ev]; cases (g y0).1 <;> rfl
    rw [e3] at st2
    exact ⟨s₂, o', st _ st2, r⟩

/-! making the object -/
def nrV (ok : Nat → Bool) : Value → Bool
  | .ref k => ok k
  | _ => true
def nrS (ok : Nat → Bool) : Slot → Bool
  | .val v => nrV ok v
  | _ => true
theorem nrV_cv {ok : Nat → Bool} {A' : Nat → Addr} (hA : ∀ k, ok k = true → A' k = A k) {v : Value} (h : nrV ok v = true) : cv A' v = cv A v := by
  cases v <;> first | rfl | (simp only [cv]; rw [hA _ h])
theorem nr_map {ok : Nat → Bool} {A' : Nat → Addr} (hA : ∀ k, ok k = true → A' k = A k) : ∀ {St : List Value}, St.all (nrV ok) = true → St.map (cv A') = St.map (cv A)
  | [], _ => rfl
  | v :: r, h => by
    rw [List.all_cons, Bool.and_eq_true] at h
    rw [List.map_cons, List.map_cons, nrV_cv hA h.1, nr_map hA h.2]
theorem nr_ls {ok : Nat → Bool} {A' : Nat → Addr} {rl : List Slot} (hA : ∀ k, ok k = true → A' k = A k) (h : Ls.all (nrS ok) = true) (L : LsOk A Ls rl) : LsOk A' Ls rl := by
  refine ⟨L.1, L.2.1, fun k v q => ?_⟩
  have := List.all_eq_true.mp h _ (List.mem_of_getElem? q)
  rw [nrV_cv hA this]; exact L.2.2 k v q
def wK (arrs : List (FieldType × Nat)) (a q : Nat) : Nat → Option CD
  | 0 => some (.inl q)
  | k + 1 => if k < a then (arrs[k]?).map fun x => .inr (x.1, x.2, none) else none
def AE (h0 : Heap) (A0 A : Nat → Addr) (a : Nat) : Prop := A 0 = A0 0 ∧ ∀ k, 1 ≤ k → k ≤ a → h0.size ≤ A k
def FI (Z : State) (C : String) (fs : FS) (arrs : List (FieldType × Nat)) (A0 : Nat → Addr) (h0 : Heap) : Sg → Option Value → Heap → Prop := fun σ v h => v = none ∧ ∃ A : Nat → Addr, AE h0 A0 A arrs.length ∧ Wd Z C fs h A (wK arrs arrs.length arrs.length) σ ∧ h0.size ≤ h.size ∧ ∀ (b : Addr) (c : Cell), h0[b]? = some c → b ≠ A0 0 → h[b]? = some c
theorem FI_of {arrs : List (FieldType × Nat)} {A0 : Nat → Addr} (hA : AE h0 A0 A arrs.length) (h : Heap) (W : Wd Z C fs h A (wK arrs arrs.length arrs.length) σ) (O : Out h0 h A (wK arrs arrs.length arrs.length)) : FI Z C fs arrs A0 h0 σ none h := by
  refine ⟨rfl, A, hA, W, O.1, fun b c q ne => O.2 b c q fun k d z1 z2 z3 => ?_⟩
  cases k with
  | zero => exact ne (z3.symm.trans hA.1)
  | succ k =>
    have : k < arrs.length := by simp only [wK] at z1; split at z1 <;> first | assumption | cases z1
    have := hA.2 (k + 1) (by omega) (by omega)
    have := (Array.getElem?_eq_some_iff.mp q).1
    have z3 : @Eq Nat _ _ := z3
    omega
theorem am_objinit {k i W0 : Nat} (hd : decode bytes pc = .ok (.invokespecial i, 3)) (hc : Cx p s m meth c Z own bytes maxL ret mn) (w1 : (Cond.methodLink own i Lib.objectInit).before a0 Z = true) (w2 : (Cond.instanceMethod Lib.objectInit).before a0 Z = true) (w3 : (Cond.code Lib.objectInit ⟨#[0xb1]⟩ 1 none).before a0 Z = true) (hm : Ls.length = maxL) (hR : 1 ≤ R.frames ∧ W0 + 12 ≤ R.locals ∧ catS St ≤ W0)
    (κ : OkR p l e R s m args below meth c Z C fs n0 h0 F A w cells slots (pc + 3) Ls St σ t) : OkR p l e R s m args below meth c Z C fs n0 h0 F A w cells slots pc Ls (.ref k :: St) σ t := by
  intro x' hx T locs rl X W O N f L
  obtain ⟨T', X', e', st⟩ := initO X hc.1 hc.2.1 hc.2.2.2.1 w1 w2 w3 rfl (g := mkF m pc rl.toArray (.ref (A k) :: St.map (cv A))) rfl (by show rl.toArray.size = _; rw [List.size_toArray, L.1, hm, hc.2.2.2.2.1]) rfl (hb hc.2.2.1 hd) hR.1 (W := W0) (by show 2 * 0 + _ ≤ W0; rw [catS_map]; omega) hR.2.1
  obtain ⟨s₂, o', st2, r⟩ := κ x' hx T' locs rl X' (by rw [e']; exact W) (by rw [e']; exact O) N f L
  exact ⟨s₂, o', st _ st2, r⟩
theorem am_newarr {arrs : List (FieldType × Nat)} {A0 : Nat → Addr} {a n : Nat} {aty : ArrayType} {i : Int32} (hd : decode bytes pc = .ok (.newarray aty, 2)) (hc : Cx p s m meth c Z own bytes maxL ret mn) (wa : (Cond.arrayClass (newarray.typeOf aty)).before a0 Z = true) (ha : arrs[a]? = some (newarray.typeOf aty, n)) (hi : i.toInt = (n : Int)) (hdef : defaultValue (newarray.typeOf aty) = ae zs (a + 1) 0 (newarray.typeOf aty)) (hnr : Ls.all (nrS fun k => k != a + 1) = true ∧ St.all (nrV fun k => k != a + 1) = true) (hAE : AE h0 A0 A a) (hn : n0 ≤ h0.size) (hR : n * 8 ≤ 536870912 ∧ cells + 1 ≤ R.cells ∧ slots + n ≤ R.slots)
    (κ : ∀ A' : Nat → Addr, AE h0 A0 A' (a + 1) → OkR p l e R s m args below meth c Z C fs n0 h0 F A' (wK arrs (a + 1) a) (cells + 1) (slots + n) (pc + 2) Ls (.ref (a + 1) :: St) zs t) : OkR p l e R s m args below meth c Z C fs n0 h0 F A (wK arrs a a) cells slots pc Ls (.int i :: St) zs t := by
  intro x' hx T locs rl X W O N f L
  have hnx : i.toNatClampNeg = n := by show i.toInt.toNat = n; omega
  obtain ⟨T', h', cA, X', e', E, Ar, st⟩ := newP X hc.1 hc.2.1 wa rfl (g := mkF m pc rl.toArray (.int i :: St.map (cv A))) rfl (hb hc.2.2.1 hd) rfl (fun q => by rw [Int32.lt_iff_toInt_lt] at q; have : (0 : Int32).toInt = 0 := rfl; omega) (cap := n) (by omega) hR.1 hR.2.1 hR.2.2
  subst e'
  obtain ⟨A', hA'⟩ : ∃ A' : Nat → Addr, A' = fun k => if k = a + 1 then T.heap.size else A k := ⟨_, rfl⟩
  have hA1 : A' (a + 1) = T.heap.size := by rw [hA']; simp
  have hA2 : ∀ k, (k != a + 1) = true → A' k = A k := fun k q => by rw [hA']; simp only []; rw [if_neg (by simpa using q)]
  have hA3 : ∀ k, k ≤ a → A' k = A k := fun k q => hA2 k (by simp; omega)
  have hlt : ∀ k d, wK arrs a a k = some d → A k < T.heap.size := fun k d q => by
    have := W.1 k d q
    rcases d with q' | ⟨ty, n', o⟩
    · exact this.1.lt
    · obtain ⟨cl, a1, -⟩ := this; exact a1.lt
  have hlow : ∀ k d, wK arrs a a k = some d → k ≤ a := fun k d q => by
    cases k with
    | zero => omega
    | succ k => simp only [wK] at q; split at q <;> first | omega | cases q
  have hold : ∀ k d, wK arrs (a + 1) a k = some d → k ≠ a + 1 → wK arrs a a k = some d := fun k d q ne => by
    cases k with
    | zero => exact q
    | succ k =>
      simp only [wK] at q ⊢
      split at q
      · rw [if_pos (by omega)]; exact q
      · cases q
  have W' : Wd Z C fs T'.heap A' (wK arrs (a + 1) a) zs := by
    refine ⟨fun k d q => ?_, fun k k' d d' q q' z => ?_⟩
    · by_cases ek : k = a + 1
      · subst ek
        simp only [wK, Nat.lt_succ_self, if_true, ha, Option.map_some, Option.some.injEq] at q
        subst q
        refine ⟨_, by rw [hA1]; exact Ar, by rw [sz_new]; exact hnx, fun j hj => ?_⟩
        have e1 : aeo zs (a + 1) j (newarray.typeOf aty) none = defaultValue (newarray.typeOf aty) := by rw [hdef]; cases aty <;> rfl
        rw [e1]
        simp [newA, hnx, hj]
      · have hq := hold k d q ek
        have := W.1 k d hq
        have ek' := hA3 k (hlow k d hq)
        rcases d with q' | ⟨ty, n', o⟩
        · refine ⟨by rw [ek']; exact this.1.ext E, fun j n d cd hj => ?_⟩
          have F := this.2 j n d cd hj
          rw [ek']
          have e1 : cv A' (fv zs k j q' cd) = cv A (fv zs k j q' cd) := by
            refine nrV_cv hA2 ?_
            match cd with
            | 0 => rfl
            | 1 => rfl
            | r + 2 =>
              cases k with
              | zero =>
                simp only [wK, Option.some.injEq, Sum.inl.injEq] at hq
                subst hq
                simp only [fv]
                split
                · simp [nrV]; omega
                · rfl
              | succ k => simp only [wK] at hq; split at hq <;> first | cases hq | (rw [Option.map_eq_some_iff] at hq; obtain ⟨_, -, z⟩ := hq; cases z)
          rw [e1]; exact F.ext E
        · obtain ⟨cl, a1, a2, a3⟩ := this
          exact ⟨cl, by rw [ek']; exact a1.ext E, a2, a3⟩
    · by_cases ek : k = a + 1 <;> by_cases ek2 : k' = a + 1
      · omega
      · subst ek
        have := hlt k' d' (hold k' d' q' ek2)
        rw [hA1, hA2 k' (by simpa using ek2)] at z
        have z : @Eq Nat _ _ := z
        have this : @LT.lt Nat _ _ _ := this
        omega
      · subst ek2
        have := hlt k d (hold k d q ek)
        rw [hA1, hA2 k (by simpa using ek)] at z
        have z : @Eq Nat _ _ := z
        have this : @LT.lt Nat _ _ _ := this
        omega
      · rw [hA2 k (by simpa using ek), hA2 k' (by simpa using ek2)] at z
        exact W.2 k k' d d' (hold k d q ek) (hold k' d' q' ek2) z
  have hin : ∀ k d, wK arrs a a k = some d → wK arrs (a + 1) a k = some d := fun k d q => by
    cases k with
    | zero => exact q
    | succ k =>
      simp only [wK] at q ⊢
      split at q
      · rw [if_pos (by omega)]; exact q
      · cases q
  have O' : Out h0 T'.heap A' (wK arrs (a + 1) a) := ⟨Nat.le_trans O.1 E.1, fun b c q z => E.2 _ _ (O.2 b c q fun k d q1 q2 => by
    rw [← hA3 k (hlow k d q1)]; exact z k d (hin k d q1) q2)⟩
  have N' : Nw n0 A' (wK arrs (a + 1) a) := fun k d q1 q2 => by
    by_cases ek : k = a + 1
    · subst ek; rw [hA1]; exact Nat.le_trans hn O.1
    · rw [hA2 k (by simpa using ek)]; exact N k d (hold k d q1 ek) q2
  have hAE' : AE h0 A0 A' (a + 1) := ⟨by rw [hA3 0 (by omega)]; exact hAE.1, fun k k1 k2 => by
    by_cases ek : k = a + 1
    · subst ek; rw [hA1]; exact O.1
    · rw [hA2 k (by simpa using ek)]; exact hAE.2 k k1 (by omega)⟩
  obtain ⟨s₂, o', st2, r⟩ := κ A' hAE' x' hx T' locs rl X' W' O' N' f (nr_ls hA2 hnr.1 L)
  have e2 : List.map (cv A') (.ref (a + 1) :: St) = .ref T.heap.size :: St.map (cv A) := by
    rw [List.map_cons, nr_map hA2 hnr.2]; simp only [cv]; rw [hA1]
  rw [e2] at st2
  exact ⟨s₂, o', st _ st2, r⟩
def uqc (cd j : Nat) : Nat → FS → Bool
  | _, [] => true
  | i, x :: r => (x.2.2 != cd || i == j) && uqc cd j (i + 1) r
theorem uqc_ok {cd j : Nat} : ∀ {fs : FS} {i : Nat}, uqc cd j i fs = true → ∀ j' x, fs[j']? = some x → x.2.2 = cd → i + j' = j
  | [], i, _, j', x, h, _ => by simp at h
  | y :: r, i, hu, j', x, h, e => by
    simp only [uqc, Bool.and_eq_true] at hu
    cases j' with
    | zero =>
      simp at h; subst h
      have := hu.1
      simp [e] at this; omega
    | succ j' =>
      rw [List.getElem?_cons_succ] at h
      have := uqc_ok hu.2 j' x h e
      omega
theorem am_putref {arrs : List (FieldType × Nat)} {a j i : Nat} {n d : String} (hd : decode bytes pc = .ok (.putfield i, 3)) (hc : Cx p s m meth c Z own bytes maxL ret mn) (hF : FsOk Z a0 C fs) (wi : (Cond.instantiable C kk).before a0 Z = true) (hfs : fs[j]? = some (n, d, a + 2)) (hu : uqc (a + 2) j 0 fs = true) (wl : (Cond.fieldLink own i C n d).before a0 Z = true) (hL : Lay1 Z a0 C own mn n d)
    (κ : OkR p l e R s m args below meth c Z C fs n0 h0 F A (wK arrs (a + 1) (a + 1)) cells slots (pc + 3) Ls St zs t) : OkR p l e R s m args below meth c Z C fs n0 h0 F A (wK arrs (a + 1) a) cells slots pc Ls (.ref (a + 1) :: .ref 0 :: St) zs t := by
  intro x' hx T locs rl X W O N f L
  have hk : wK arrs (a + 1) a 0 = some (.inl a) := rfl
  have hO := W.1 0 _ hk
  have Fd := hO.2 j n d (a + 2) hfs
  obtain ⟨hlaid, ⟨ty, hty, -, -, t2⟩, hinj⟩ := hF j n d (a + 2) hfs
  obtain ⟨ty', rfl⟩ := t2 (by omega)
  have hL' : (Cond.lays C C n d).before a0 Z = true ∨ ((Cond.laysFinal C C n d).before a0 Z = true ∧ own = C ∧ meth.name = "<init>") := hL.imp id fun q => ⟨q.1, q.2.1, hc.2.2.2.2.2.2.2.trans q.2.2⟩
  obtain ⟨T', h', X', e', Q, st'⟩ := putF X hc.1 hc.2.1 hc.2.2.2.1 (host := "") (Or.inl wl) Via.refl rfl Fd hO.1 hL' wi (v := .ref (A (a + 1))) hty rfl rfl (g := mkF m pc rl.toArray (.ref (A (a + 1)) :: .ref (A 0) :: St.map (cv A))) rfl rfl (hb hc.2.2.1 hd)
  subst e'
  have hsame : ∀ k d, wK arrs (a + 1) (a + 1) k = some d → k ≠ 0 → wK arrs (a + 1) a k = some d := fun k d q ne => by
    cases k with
    | zero => exact absurd rfl ne
    | succ k => exact q
  have hsame' : ∀ k d, wK arrs (a + 1) a k = some d → k ≠ 0 → wK arrs (a + 1) (a + 1) k = some d := fun k d q ne => by
    cases k with
    | zero => exact absurd rfl ne
    | succ k => exact q
  have W1 : Wd Z C fs T'.heap A (wK arrs (a + 1) (a + 1)) zs := by
    refine ⟨fun k d' q => ?_, fun k k' d d' q q' z => ?_⟩
    · by_cases ek : k = 0
      · subst ek
        simp only [wK, Option.some.injEq] at q
        subst q
        refine ⟨hO.1.wr Q, fun j' n' d' cd' hj' => ?_⟩
        by_cases ej : j' = j
        · subst ej
          rw [hfs] at hj'; cases hj'
          have e1 : cv A (fv zs 0 j' (a + 1) (a + 2)) = .ref (A (a + 1)) := by simp [fv, cv]
          rw [e1]
          exact Fd.same Q
        · obtain ⟨hlaid', ⟨ty', hty', -⟩, -⟩ := hF j' n' d' cd' hj'
          have e1 : fv zs 0 j' (a + 1) cd' = fv zs 0 j' a cd' := by
            match cd', hj' with
            | 0, _ => rfl
            | 1, _ => rfl
            | r + 2, hj' =>
              have : r ≠ a := fun e => ej (by subst e; have := uqc_ok hu j' _ hj' rfl; omega)
              simp only [fv]
              by_cases q : r < a
              · rw [if_pos q, if_pos (by omega)]
              · rw [if_neg q, if_neg (by omega)]
          rw [e1]
          exact (hO.2 j' n' d' cd' hj').other Q (Or.inr (slot_ne hlaid' hlaid (fun q => ej (hinj _ _ _ _ hj' q.symm).symm) hty' hty))
      · have hq := hsame k d' q ek
        have ne : A k ≠ A 0 := fun z => ek (W.2 _ _ _ _ hq hk z)
        have := W.1 k d' hq
        rcases d' with q' | ⟨ty, n', o⟩
        · cases k with
          | zero => exact absurd rfl ek
          | succ k => simp only [wK] at q; split at q <;> first | cases q | (rw [Option.map_eq_some_iff] at q; obtain ⟨_, -, z⟩ := q; cases z)
        · obtain ⟨cl, a1, a2, a3⟩ := this
          exact ⟨cl, a1.other Q ne, a2, a3⟩
    · by_cases e1 : k = 0 <;> by_cases e2 : k' = 0
      · omega
      · subst e1; exact W.2 _ _ _ _ hk (hsame k' d' q' e2) z
      · subst e2; exact W.2 _ _ _ _ (hsame k d q e1) hk z
      · exact W.2 _ _ _ _ (hsame k d q e1) (hsame k' d' q' e2) z
  have O1 := O.write hk rfl Q
  have O' : Out h0 T'.heap A (wK arrs (a + 1) (a + 1)) := ⟨O1.1, fun b c q z => O1.2 b c q fun k d q1 q2 => by
    by_cases ek : k = 0
    · subst ek; exact z 0 _ rfl rfl
    · exact z k d (hsame' k d q1 ek) q2⟩
  have N' : Nw n0 A (wK arrs (a + 1) (a + 1)) := fun k d q1 q2 => by
    by_cases ek : k = 0
    · subst ek; exact N 0 _ hk rfl
    · exact N k d (hsame k d q1 ek) q2
  obtain ⟨s₂, o', st2, r⟩ := κ x' hx T' _ rl X' W1 O' N' (Fr.snoc X' f (N 0 _ hk rfl)) L
  exact ⟨s₂, o', st' _ st2, r⟩
/-- the law's world before and after the object is made; w0: what it only reads -/
def wN (w0 : Nat → Option CD) : Nat → Option CD
  | 0 => some (.inl 0)
  | k + 1 => w0 (k + 1)
def wF (arrs : List (FieldType × Nat)) (w0 : Nat → Option CD) (k : Nat) : Option CD := if k ≤ arrs.length then wK arrs arrs.length arrs.length k else w0 k
def Rd (w0 : Nat → Option CD) (mm : Nat) : Prop := ∀ k d, w0 k = some d → wrb d = false ∧ mm < k
theorem am_new {nn i mm : Nat} (hd : decode bytes pc = .ok (.new i, 3)) (hc : Cx p s m meth c Z own bytes maxL ret mn) (hF : FsOk Z a0 C fs) (wl : (Cond.classLink own i C).before a0 Z = true) (wi : (Cond.instantiable C nn).before a0 Z = true) (wz : (Cond.initialized C).before a0 Z = true) (hw0 : Rd w mm) (hnr : Ls.all (nrS fun k => k != 0) = true ∧ St.all (nrV fun k => k != 0) = true) (hn : n0 ≤ h0.size) (hR : cells + 1 ≤ R.cells ∧ slots + nn ≤ R.slots)
    (κ : ∀ A' : Nat → Addr, (∀ k, k ≠ 0 → A' k = A k) → OkR p l e R s m args below meth c Z C fs n0 h0 F A' (wN w) (cells + 1) (slots + nn) (pc + 3) Ls (.ref 0 :: St) zs t) : OkR p l e R s m args below meth c Z C fs n0 h0 F A w cells slots pc Ls St σ t := by
  intro x' hx T locs rl X W O N f L
  obtain ⟨T', h', X', e', E, Ex, D, -, st⟩ := newO X hc.1 hc.2.1 hc.2.2.2.1 wl wi wz rfl (g := mkF m pc rl.toArray (St.map (cv A))) rfl (hb hc.2.2.1 hd) hR.1 hR.2
  subst e'
  obtain ⟨A', hA'⟩ : ∃ A' : Nat → Addr, A' = fun k => if k = 0 then T.heap.size else A k := ⟨_, rfl⟩
  have hA1 : A' 0 = T.heap.size := by rw [hA']; simp
  have hA2 : ∀ k, (k != 0) = true → A' k = A k := fun k q => by rw [hA']; simp only []; rw [if_neg (by simpa using q)]
  have hold : ∀ k d, wN w k = some d → k ≠ 0 → w k = some d := fun k d q ne => by
    cases k with
    | zero => exact absurd rfl ne
    | succ k => exact q
  have hlt : ∀ k d, w k = some d → A k < T.heap.size := fun k d q => by
    have := W.1 k d q
    rcases d with q' | ⟨ty, n', o⟩
    · exact this.1.lt
    · obtain ⟨cl, a1, -⟩ := this; exact a1.lt
  have W' : Wd Z C fs T'.heap A' (wN w) zs := by
    refine ⟨fun k d q => ?_, fun k k' d d' q q' z => ?_⟩
    · by_cases ek : k = 0
      · subst ek
        simp only [wN, Option.some.injEq] at q
        subst q
        rw [show CellOk Z C fs T'.heap A' zs 0 (.inl 0) = (Exa Z T'.heap (A' 0) C ∧ ∀ (j : Nat) (n d : String) (cd : Nat), fs[j]? = some (n, d, cd) → Fld Z T'.heap (A' 0) C n d (cv A' (fv zs 0 j 0 cd))) from rfl, hA1]
        refine ⟨Ex, fun j n d cd hj => ?_⟩
        obtain ⟨hlaid, ⟨ty, hty, t0, t1, t2⟩, -⟩ := hF j n d cd hj
        have := D hlaid hty
        match cd, t0, t1, t2 with
        | 0, t0, _, _ => have e := t0 rfl; subst e; exact this
        | 1, _, t1, _ => have e := t1 rfl; subst e; exact this
        | r + 2, _, _, t2 => obtain ⟨ty', rfl⟩ := t2 (by omega); exact this
      · have hq := hold k d q ek
        have := W.1 k d hq
        have e1 := hA2 k (by simpa using ek)
        rcases d with q' | ⟨ty, n', o⟩
        · have := (hw0 k _ hq).1; cases this
        · obtain ⟨cl, a1, a2, a3⟩ := this
          cases o with
          | none => have := (hw0 k _ hq).1; cases this
          | some f0 => exact ⟨cl, by rw [e1]; exact a1.ext E, a2, a3⟩
    · by_cases e1 : k = 0 <;> by_cases e2 : k' = 0
      · omega
      · subst e1
        have := hlt k' d' (hold k' d' q' e2)
        rw [hA1, hA2 k' (by simpa using e2)] at z
        have z : @Eq Nat _ _ := z
        have this : @LT.lt Nat _ _ _ := this
        omega
      · subst e2
        have := hlt k d (hold k d q e1)
        rw [hA1, hA2 k (by simpa using e1)] at z
        have z : @Eq Nat _ _ := z
        have this : @LT.lt Nat _ _ _ := this
        omega
      · rw [hA2 k (by simpa using e1), hA2 k' (by simpa using e2)] at z
        exact W.2 k k' d d' (hold k d q e1) (hold k' d' q' e2) z
  have O' : Out h0 T'.heap A' (wN w) := ⟨Nat.le_trans O.1 E.1, fun b c q z => E.2 _ _ (O.2 b c q fun k d q1 q2 => by have := (hw0 k d q1).1; rw [q2] at this; cases this)⟩
  have N' : Nw n0 A' (wN w) := fun k d q1 q2 => by
    by_cases ek : k = 0
    · subst ek; rw [hA1]; exact Nat.le_trans hn O.1
    · have := (hw0 k d (hold k d q1 ek)).1; rw [q2] at this; cases this
  obtain ⟨s₂, o', st2, r⟩ := κ A' (fun k q => hA2 k (by simpa using q)) x' hx T' locs rl X' W' O' N' f (nr_ls hA2 hnr.1 L)
  have e2 : List.map (cv A') (.ref 0 :: St) = .ref T.heap.size :: St.map (cv A) := by
    rw [List.map_cons, nr_map hA2 hnr.2]; simp only [cv]; rw [hA1]
  rw [e2] at st2
  exact ⟨s₂, o', st _ st2, r⟩
def ConI (l : Launch) (Z : State) (C : String) (fs : FS) (arrs : List (FieldType × Nat)) (y : MethodName) (bytes : ByteArray) (maxL : Nat) (rm : Room) (as : List Value) (σ' : Sg) : Prop :=
  ∀ (A : Nat → Addr) (n0 : Nat) (h : Heap) (ws : List Jvm.Cond), Wd Z C fs h A (wK arrs 0 0) zs → Nw n0 A (wK arrs 0 0) → n0 ≤ h.size →
    MetFree l y (head1 (Jvm.Cond.code y bytes maxL none :: ws) rm) (fun a U => a = ((.ref 0 :: as).map (cv A)).toArray ∧ Z.Warmed39 U.vm ∧ U.heap = h) (fun _ _ _ _ _ => True) (fun _ U o U' => ∃ v' L, o = .returned v' ∧ (FI Z C fs arrs A h σ' v' U'.heap ∧ Fr n0 L) ∧ FrameEnd U o U' L rm.cells rm.slots)
theorem am_conI {arrs : List (FieldType × Nat)} {y : MethodName} {rm : Room} {as : List Value} {t : Option Sg} (pn : plainName y.cls = true)
    (H : ∀ (p : Program) (e : Env) (s : State) (m : MethodId) (below : List Frame) (meth : Method) (c : Code) (A : Nat → Addr) (n0 : Nat) (h : Heap), n0 ≤ h.size → Cx p s m meth c Z y.cls bytes maxL none y.name → OkR p l e rm s m ((.ref 0 :: as).map (cv A)).toArray below meth c Z C fs n0 h (FI Z C fs arrs A h) A (wK arrs 0 0) 0 0 0 (entL (.ref 0 :: as) maxL) [] zs t) :
    ∀ x, t = some x → ConI l Z C fs arrs y bytes maxL rm as x :=
  fun x ht A n0 h ws W N hn => am_met pn ht W N fun p e s m below meth c hc => H p e s m below meth c A n0 h hn hc
def LkI (Z : State) (a0 : Array Value) (own : String) (i : Nat) (y : MethodName) (b : ByteArray) (mL : Nat) : Prop := (Cond.methodLink own i y).before a0 Z = true ∧ (Cond.instanceMethod y).before a0 Z = true ∧ (Cond.code y b mL none).before a0 Z = true ∧ (Cond.initialized y.cls).before a0 Z = true ∧ notMH y ∧ y.name = "<init>"
theorem am_ctor {arrs : List (FieldType × Nat)} {y : MethodName} {b : ByteArray} {mL i : Nat} {rm : Room} {argsL rest : List Value} {u : Option Sg} {K : Sg → Option α} {W0 : Nat} (hl : LkI Z a0 own i y b mL) (hd : decode bytes pc = .ok (.invokespecial i, 3)) (hc : Cx p s m meth c Z own bytes maxL ret mn) (hw0 : Rd w arrs.length) (hst : St = argsL.reverse ++ .ref 0 :: rest) (har : arity y.desc argsL.length = true)
    (hcon : ∀ x, u = some x → ConI l Z C fs arrs y b mL rm argsL x) (hnr : Ls.all (nrS fun k => k == 0 || decide (arrs.length < k)) = true ∧ rest.all (nrV fun k => k == 0 || decide (arrs.length < k)) = true) (hm : Ls.length = maxL) (hn : n0 ≤ h0.size) (hrm : rm.frames + 1 ≤ R.frames ∧ W0 + (mL + 11) + rm.locals ≤ R.locals ∧ catS rest ≤ W0 ∧ cells + rm.cells ≤ R.cells ∧ slots + rm.slots ≤ R.slots)
    (κ : ∀ (A' : Nat → Addr) (x : Sg), u = some x → OkR p l e R s m args below meth c Z C fs n0 h0 F A' (wF arrs w) (cells + rm.cells) (slots + rm.slots) (pc + 3) Ls rest x (K x)) : OkR p l e R s m args below meth c Z C fs n0 h0 F A (wN w) cells slots pc Ls St zs (u.bind K) := by
  subst hst
  intro x' hx T locs rl X W O N f L
  obtain ⟨r1, r2, r3, r4, r5⟩ := hrm
  cases hu : u with
  | none => rw [hu] at hx; cases hx
  | some y0 =>
    rw [hu] at hx
    have hx' : K y0 = some x' := hx
    have hS : SubW (wK arrs 0 0) (wN w) := by
      refine ⟨fun k d q => ?_, fun k d q => ?_⟩
      · cases k with
        | zero => exact q
        | succ k => simp only [wK] at q; split at q <;> first | omega | cases q
      · cases k with
        | zero => exact Or.inl q
        | succ k => exact Or.inr (hw0 _ _ q).1
    have hnT : n0 ≤ T.heap.size := Nat.le_trans hn O.1
    have hM := hcon y0 hu A n0 T.heap [] (hS.wd W) (fun k d q1 q2 => N k d (hS.1 k d q1) q2) hnT
    have hB := backOf (h := T.heap) (Q := fun v' h' L => FI Z C fs arrs A T.heap y0 v' h' ∧ Fr n0 L) (W := W0) (R := R) (p := p) (e := e) (below := below) (s := s) (args := args) (len := 3) hM hc.2.1 hl.2.2.1 hl.2.2.2.1 r1 r2
    have hsz : (mkF m pc rl.toArray (List.map (cv A) (argsL.reverse ++ .ref 0 :: rest))).locals.size = c.maxLocals := by show rl.toArray.size = _; rw [List.size_toArray, L.1, hm, hc.2.2.2.2.1]
    obtain ⟨v, _, ⟨T1, L1, k1, n1⟩, -, X1, ⟨Lc, hQ, l1, c1, s1⟩, st⟩ := X.specialBack hc.1 (y := y) hl.2.2.2.2.2 hc.2.2.2.1 (mv hc.2.1 hl.1) (mv hc.2.1 hl.2.1) (mv hc.2.1 hl.2.2.1) hl.2.2.2.2.1 hB (g := mkF m pc rl.toArray (List.map (cv A) (argsL.reverse ++ .ref 0 :: rest))) rfl hsz (Steps.refl _) (a := A 0) (argsL := argsL.map (cv A)) (rest := rest.map (cv A)) (arity_ok har (by simp)) (by simp [cv]) (by show 2 * 0 + _ ≤ W0; rw [catS_map]; omega) (hb hc.2.2.1 hd) (fun _ _ => ⟨by simp [cv], rfl, by dsimp only [Pt.cells]; omega, by dsimp only [Pt.slots]; omega⟩)
    dsimp only [Pt.U, Pt.locs, Pt.cells, Pt.slots] at X1 l1 c1 s1 st hQ
    subst l1 c1 s1
    obtain ⟨⟨rfl, B, hAE, W1, z1, z2⟩, N1⟩ := hQ
    obtain ⟨A', hA'⟩ : ∃ A' : Nat → Addr, A' = fun k => if k ≤ arrs.length then B k else A k := ⟨_, rfl⟩
    have hA1 : ∀ k, k ≤ arrs.length → A' k = B k := fun k q => by rw [hA']; simp only []; rw [if_pos q]
    have hA2 : ∀ k, arrs.length < k → A' k = A k := fun k q => by rw [hA']; simp only []; rw [if_neg (by omega)]
    have hA3 : ∀ k, (k == 0 || decide (arrs.length < k)) = true → A' k = A k := fun k q => by
      simp only [Bool.or_eq_true, beq_iff_eq, decide_eq_true_eq] at q
      rcases q with rfl | q
      · rw [hA1 0 (by omega)]; exact hAE.1
      · exact hA2 k q
    have hk0 : wN w 0 = some (.inl 0) := rfl
    have hconst : ∀ k d, arrs.length < k → w k = some d → wN w k = some d := fun k d q1 q2 => by
      cases k with
      | zero => omega
      | succ k => exact q2
    have hsmall : ∀ k d, wK arrs arrs.length arrs.length k = some d → k ≤ arrs.length := fun k d q => by
      cases k with
      | zero => omega
      | succ k => simp only [wK] at q; split at q <;> first | omega | cases q
    have hcell : ∀ k d, w k = some d → ∃ cl : Cell, T.heap[A k]? = some cl ∧ T1.heap[A k]? = some cl := fun k d q => by
      have hr := hw0 k d q
      have q' := hconst k d hr.2 q
      rcases d with q' | ⟨ty, n', o⟩
      · cases hr.1
      · obtain ⟨cl, a1, -⟩ := W.1 k _ q'
        exact ⟨cl, a1.1, z2 _ _ a1.1 fun e => by have := W.2 _ _ _ _ q' hk0 e; omega⟩
    have W' : Wd Z C fs T1.heap A' (wF arrs w) y0 := by
      refine ⟨fun k d q => ?_, fun k k' d d' q q' z => ?_⟩
      · unfold wF at q
        split at q
        · rename_i hle
          have := W1.1 k d q
          rcases d with q' | ⟨ty, n', o⟩
          · rw [show CellOk Z C fs T1.heap A' y0 k (.inl q') = (Exa Z T1.heap (A' k) C ∧ ∀ (j : Nat) (n d : String) (cd : Nat), fs[j]? = some (n, d, cd) → Fld Z T1.heap (A' k) C n d (cv A' (fv y0 k j q' cd))) from rfl, hA1 k hle]
            refine ⟨this.1, fun j n d cd hj => ?_⟩
            have e1 : cv A' (fv y0 k j q' cd) = cv B (fv y0 k j q' cd) := by
              refine nrV_cv (ok := fun k => decide (k ≤ arrs.length)) (fun k q => hA1 k (of_decide_eq_true q)) ?_
              match cd with
              | 0 => rfl
              | 1 => rfl
              | r + 2 =>
                cases k with
                | zero =>
                  simp only [wK, Option.some.injEq, Sum.inl.injEq] at q
                  subst q
                  simp only [fv]
                  split
                  · simp [nrV]; omega
                  · rfl
                | succ k => simp only [wK] at q; split at q <;> first | cases q | (rw [Option.map_eq_some_iff] at q; obtain ⟨_, -, z⟩ := q; cases z)
            rw [e1]; exact this.2 j n d cd hj
          · obtain ⟨cl, a1, a2, a3⟩ := this
            exact ⟨cl, by rw [hA1 k hle]; exact a1, a2, a3⟩
        · rename_i hle
          have hr := hw0 k d q
          obtain ⟨cl, b1, b2⟩ := hcell k d q
          have := W.1 k d (hconst k d hr.2 q)
          rcases d with q' | ⟨ty, n', o⟩
          · cases hr.1
          · obtain ⟨cl', a1, a2, a3⟩ := this
            cases o with
            | none => cases hr.1
            | some f0 =>
              have := a1.1
              rw [b1] at this; cases this
              exact ⟨cl, by rw [hA2 k hr.2]; exact ⟨b2, a1.2⟩, a2, a3⟩
      · have hlo : ∀ k d, wF arrs w k = some d → (k ≤ arrs.length ∧ wK arrs arrs.length arrs.length k = some d) ∨ (arrs.length < k ∧ w k = some d) := fun k d q => by
          unfold wF at q
          split at q
          · exact Or.inl ⟨by assumption, q⟩
          · exact Or.inr ⟨by omega, q⟩
        have hmix : ∀ (k k' : Nat) (d d' : CD), k ≤ arrs.length → arrs.length < k' → w k' = some d' → B k ≠ A k' := fun k k' d d' q1 q2 q3 e => by
          obtain ⟨cl, b1, -⟩ := hcell k' d' q3
          have hsz := (Array.getElem?_eq_some_iff.mp b1).1
          cases k with
          | zero =>
            have := W.2 _ _ _ _ hk0 (hconst k' d' q2 q3) (hAE.1.symm.trans e)
            omega
          | succ k =>
            have := hAE.2 (k + 1) (by omega) q1
            have e : @Eq Nat _ _ := e
            have hsz : @LT.lt Nat _ _ _ := hsz
            omega
        rcases hlo k d q with ⟨q1, q2⟩ | ⟨q1, q2⟩ <;> rcases hlo k' d' q' with ⟨q3, q4⟩ | ⟨q3, q4⟩
        · rw [hA1 k q1, hA1 k' q3] at z; exact W1.2 _ _ _ _ q2 q4 z
        · rw [hA1 k q1, hA2 k' q3] at z; exact absurd z (hmix k k' d d' q1 q3 q4)
        · rw [hA2 k q1, hA1 k' q3] at z; exact absurd z.symm (hmix k' k d' d q3 q1 q2)
        · rw [hA2 k q1, hA2 k' q3] at z; exact W.2 _ _ _ _ (hconst k d q1 q2) (hconst k' d' q3 q4) z
    have O' : Out h0 T1.heap A' (wF arrs w) := ⟨Nat.le_trans O.1 z1, fun b c q z => by
      have hb0 : A 0 ≠ b := fun e => z 0 (.inl arrs.length) rfl rfl (by rw [hA1 0 (by omega), hAE.1]; exact e)
      refine z2 b c (O.2 b c q fun k d q1 q2 => ?_) hb0.symm
      cases k with
      | zero => exact hb0
      | succ k => have := (hw0 _ _ (show w (k + 1) = some d from q1)).1; rw [q2] at this; cases this⟩
    have N' : Nw n0 A' (wF arrs w) := fun k d q1 q2 => by
      unfold wF at q1
      split at q1
      · rename_i hle
        rw [hA1 k hle]
        cases k with
        | zero => rw [hAE.1]; exact N 0 _ hk0 rfl
        | succ k => exact Nat.le_trans hnT (hAE.2 (k + 1) (by omega) hle)
      · have := (hw0 k d q1).1; rw [q2] at this; cases this
    obtain ⟨s₂, o', st2, r⟩ := κ A' y0 hu x' hx' T1 _ rl X1 W' O' N' (Fr.app f N1) (nr_ls hA3 hnr.1 L)
    rw [nr_map hA3 hnr.2] at st2
    exact ⟨s₂, o', st.trans st2, r⟩
end AM
section AM6
variable {p : Program} {l : Launch} {e : Env} {R : Room} {s : State} {m : MethodId} {args : Array Value} {below : List Frame} {meth : Method} {c : Code} {Z : State} {a0 : Array Value} {C own : String} {bytes : ByteArray} {maxL : Nat} {ret : Option FieldType} {mn : String} {fs : FS} {fl pfl : List (Nat × Nat)} {kI : List (Nat × Int32)} {kJ : List (Nat × Int64)} {n0 kk : Nat} {h0 : Heap} {α : Type} {F : α → Option Value → Heap → Prop} {A : Nat → Addr} {w : Nat → Option CD} {cells slots pc : Nat} {Ls Ls' : List Slot} {St St' : List Value} {σ σ' : Sg} {t : Option α}
def fI (r : Int32 × Sg) : Option Value × Sg := (some (.int r.1), r.2)
def fJ (r : Int64 × Sg) : Option Value × Sg := (some (.long r.1), r.2)
def fV (r : Sg) : Option Value × Sg := (none, r)
def FL (r : Int32 × Sg) (v : Option Value) (_ : Heap) : Prop := v = some (.int r.1)
theorem am_callP_I {y : MethodName} {b : ByteArray} {mL i : Nat} {rt : Option FieldType} {rm : Room} {wc : Nat → Option CD} {argsL rest : List Value} {u : Option (Int32 × Sg)} {K : (Int32 × Sg) → Option α} {W0 : Nat} {k q : Nat} (hk : wc k = some (.inl q)) (hl : LkP Z a0 own i y b mL rt) (hyc : y.cls = C) (wi : (Cond.instantiable C kk).before a0 Z = true) (hd : decode bytes pc = .ok (.invokevirtual i, 3)) (hc : Cx p s m meth c Z own bytes maxL ret mn) (hS : SubW wc w) (hst : St = argsL.reverse ++ .ref k :: rest) (har : arity y.desc argsL.length = true)
    (hcon : ∀ x, u = some x → Con l Z C fs y b mL rt rm wc (.ref k :: argsL) σ (fI x).1 (fI x).2) (hm : Ls.length = maxL) (hrm : rm.frames + 1 ≤ R.frames ∧ W0 + (mL + 11) + rm.locals ≤ R.locals ∧ catS rest ≤ W0 ∧ rm.cells = 0 ∧ rm.slots = 0 ∧ cells ≤ R.cells ∧ slots ≤ R.slots)
    (κ : ∀ x, u = some x → OkR p l e R s m args below meth c Z C fs n0 h0 F A w cells slots (pc + 3) Ls (.int x.1 :: rest) x.2 (K x)) : OkR p l e R s m args below meth c Z C fs n0 h0 F A w cells slots pc Ls St σ (u.bind K) :=
  am_callP (g := fI) hk hl hyc wi hd hc hS hst har hcon hm hrm κ
theorem am_callP_J {y : MethodName} {b : ByteArray} {mL i : Nat} {rt : Option FieldType} {rm : Room} {wc : Nat → Option CD} {argsL rest : List Value} {u : Option (Int64 × Sg)} {K : (Int64 × Sg) → Option α} {W0 : Nat} {k q : Nat} (hk : wc k = some (.inl q)) (hl : LkP Z a0 own i y b mL rt) (hyc : y.cls = C) (wi : (Cond.instantiable C kk).before a0 Z = true) (hd : decode bytes pc = .ok (.invokevirtual i, 3)) (hc : Cx p s m meth c Z own bytes maxL ret mn) (hS : SubW wc w) (hst : St = argsL.reverse ++ .ref k :: rest) (har : arity y.desc argsL.length = true)
    (hcon : ∀ x, u = some x → Con l Z C fs y b mL rt rm wc (.ref k :: argsL) σ (fJ x).1 (fJ x).2) (hm : Ls.length = maxL) (hrm : rm.frames + 1 ≤ R.frames ∧ W0 + (mL + 11) + rm.locals ≤ R.locals ∧ catS rest ≤ W0 ∧ rm.cells = 0 ∧ rm.slots = 0 ∧ cells ≤ R.cells ∧ slots ≤ R.slots)
    (κ : ∀ x, u = some x → OkR p l e R s m args below meth c Z C fs n0 h0 F A w cells slots (pc + 3) Ls (.long x.1 :: rest) x.2 (K x)) : OkR p l e R s m args below meth c Z C fs n0 h0 F A w cells slots pc Ls St σ (u.bind K) :=
  am_callP (g := fJ) hk hl hyc wi hd hc hS hst har hcon hm hrm κ
theorem am_callP_V {y : MethodName} {b : ByteArray} {mL i : Nat} {rt : Option FieldType} {rm : Room} {wc : Nat → Option CD} {argsL rest : List Value} {u : Option Sg} {K : Sg → Option α} {W0 : Nat} {k q : Nat} (hk : wc k = some (.inl q)) (hl : LkP Z a0 own i y b mL rt) (hyc : y.cls = C) (wi : (Cond.instantiable C kk).before a0 Z = true) (hd : decode bytes pc = .ok (.invokevirtual i, 3)) (hc : Cx p s m meth c Z own bytes maxL ret mn) (hS : SubW wc w) (hst : St = argsL.reverse ++ .ref k :: rest) (har : arity y.desc argsL.length = true)
    (hcon : ∀ x, u = some x → Con l Z C fs y b mL rt rm wc (.ref k :: argsL) σ (fV x).1 (fV x).2) (hm : Ls.length = maxL) (hrm : rm.frames + 1 ≤ R.frames ∧ W0 + (mL + 11) + rm.locals ≤ R.locals ∧ catS rest ≤ W0 ∧ rm.cells = 0 ∧ rm.slots = 0 ∧ cells ≤ R.cells ∧ slots ≤ R.slots)
    (κ : ∀ x, u = some x → OkR p l e R s m args below meth c Z C fs n0 h0 F A w cells slots (pc + 3) Ls (rest) x (K x)) : OkR p l e R s m args below meth c Z C fs n0 h0 F A w cells slots pc Ls St σ (u.bind K) :=
  am_callP (g := fV) hk hl hyc wi hd hc hS hst har hcon hm hrm κ
theorem am_callV_I {y : MethodName} {b : ByteArray} {mL i : Nat} {rt : Option FieldType} {rm : Room} {wc : Nat → Option CD} {argsL rest : List Value} {u : Option (Int32 × Sg)} {K : (Int32 × Sg) → Option α} {W0 : Nat} {k q : Nat} (hk : wc k = some (.inl q)) (hl : LkV Z a0 own i y b mL rt) (hyc : y.cls = C) (hd : decode bytes pc = .ok (.invokevirtual i, 3)) (hc : Cx p s m meth c Z own bytes maxL ret mn) (hS : SubW wc w) (hst : St = argsL.reverse ++ .ref k :: rest) (har : arity y.desc argsL.length = true)
    (hcon : ∀ x, u = some x → Con l Z C fs y b mL rt rm wc (.ref k :: argsL) σ (fI x).1 (fI x).2) (hm : Ls.length = maxL) (hrm : rm.frames + 1 ≤ R.frames ∧ W0 + (mL + 11) + rm.locals ≤ R.locals ∧ catS rest ≤ W0 ∧ rm.cells = 0 ∧ rm.slots = 0 ∧ cells ≤ R.cells ∧ slots ≤ R.slots)
    (κ : ∀ x, u = some x → OkR p l e R s m args below meth c Z C fs n0 h0 F A w cells slots (pc + 3) Ls (.int x.1 :: rest) x.2 (K x)) : OkR p l e R s m args below meth c Z C fs n0 h0 F A w cells slots pc Ls St σ (u.bind K) :=
  am_callV (g := fI) hk hl hyc hd hc hS hst har hcon hm hrm κ
theorem am_callV_J {y : MethodName} {b : ByteArray} {mL i : Nat} {rt : Option FieldType} {rm : Room} {wc : Nat → Option CD} {argsL rest : List Value} {u : Option (Int64 × Sg)} {K : (Int64 × Sg) → Option α} {W0 : Nat} {k q : Nat} (hk : wc k = some (.inl q)) (hl : LkV Z a0 own i y b mL rt) (hyc : y.cls = C) (hd : decode bytes pc = .ok (.invokevirtual i, 3)) (hc : Cx p s m meth c Z own bytes maxL ret mn) (hS : SubW wc w) (hst : St = argsL.reverse ++ .ref k :: rest) (har : arity y.desc argsL.length = true)
    (hcon : ∀ x, u = some x → Con l Z C fs y b mL rt rm wc (.ref k :: argsL) σ (fJ x).1 (fJ x).2) (hm : Ls.length = maxL) (hrm : rm.frames + 1 ≤ R.frames ∧ W0 + (mL + 11) + rm.locals ≤ R.locals ∧ catS rest ≤ W0 ∧ rm.cells = 0 ∧ rm.slots = 0 ∧ cells ≤ R.cells ∧ slots ≤ R.slots)
    (κ : ∀ x, u = some x → OkR p l e R s m args below meth c Z C fs n0 h0 F A w cells slots (pc + 3) Ls (.long x.1 :: rest) x.2 (K x)) : OkR p l e R s m args below meth c Z C fs n0 h0 F A w cells slots pc Ls St σ (u.bind K) :=
  am_callV (g := fJ) hk hl hyc hd hc hS hst har hcon hm hrm κ
theorem am_callV_V {y : MethodName} {b : ByteArray} {mL i : Nat} {rt : Option FieldType} {rm : Room} {wc : Nat → Option CD} {argsL rest : List Value} {u : Option Sg} {K : Sg → Option α} {W0 : Nat} {k q : Nat} (hk : wc k = some (.inl q)) (hl : LkV Z a0 own i y b mL rt) (hyc : y.cls = C) (hd : decode bytes pc = .ok (.invokevirtual i, 3)) (hc : Cx p s m meth c Z own bytes maxL ret mn) (hS : SubW wc w) (hst : St = argsL.reverse ++ .ref k :: rest) (har : arity y.desc argsL.length = true)
    (hcon : ∀ x, u = some x → Con l Z C fs y b mL rt rm wc (.ref k :: argsL) σ (fV x).1 (fV x).2) (hm : Ls.length = maxL) (hrm : rm.frames + 1 ≤ R.frames ∧ W0 + (mL + 11) + rm.locals ≤ R.locals ∧ catS rest ≤ W0 ∧ rm.cells = 0 ∧ rm.slots = 0 ∧ cells ≤ R.cells ∧ slots ≤ R.slots)
    (κ : ∀ x, u = some x → OkR p l e R s m args below meth c Z C fs n0 h0 F A w cells slots (pc + 3) Ls (rest) x (K x)) : OkR p l e R s m args below meth c Z C fs n0 h0 F A w cells slots pc Ls St σ (u.bind K) :=
  am_callV (g := fV) hk hl hyc hd hc hS hst har hcon hm hrm κ
theorem am_callS_I {y : MethodName} {b : ByteArray} {mL i : Nat} {rt : Option FieldType} {rm : Room} {wc : Nat → Option CD} {argsL rest : List Value} {u : Option (Int32 × Sg)} {K : (Int32 × Sg) → Option α} {W0 : Nat} (hl : LkS Z a0 own i y b mL rt) (hd : decode bytes pc = .ok (.invokestatic i, 3)) (hc : Cx p s m meth c Z own bytes maxL ret mn) (hS : SubW wc w) (hst : St = argsL.reverse ++ rest) (har : arity y.desc argsL.length = true)
    (hcon : ∀ x, u = some x → Con l Z C fs y b mL rt rm wc argsL σ (fI x).1 (fI x).2) (hm : Ls.length = maxL) (hrm : rm.frames + 1 ≤ R.frames ∧ W0 + (mL + 11) + rm.locals ≤ R.locals ∧ catS rest ≤ W0 ∧ rm.cells = 0 ∧ rm.slots = 0 ∧ cells ≤ R.cells ∧ slots ≤ R.slots)
    (κ : ∀ x, u = some x → OkR p l e R s m args below meth c Z C fs n0 h0 F A w cells slots (pc + 3) Ls (.int x.1 :: rest) x.2 (K x)) : OkR p l e R s m args below meth c Z C fs n0 h0 F A w cells slots pc Ls St σ (u.bind K) :=
  am_callS (g := fI) hl hd hc hS hst har hcon hm hrm κ
theorem am_callS_J {y : MethodName} {b : ByteArray} {mL i : Nat} {rt : Option FieldType} {rm : Room} {wc : Nat → Option CD} {argsL rest : List Value} {u : Option (Int64 × Sg)} {K : (Int64 × Sg) → Option α} {W0 : Nat} (hl : LkS Z a0 own i y b mL rt) (hd : decode bytes pc = .ok (.invokestatic i, 3)) (hc : Cx p s m meth c Z own bytes maxL ret mn) (hS : SubW wc w) (hst : St = argsL.reverse ++ rest) (har : arity y.desc argsL.length = true)
    (hcon : ∀ x, u = some x → Con l Z C fs y b mL rt rm wc argsL σ (fJ x).1 (fJ x).2) (hm : Ls.length = maxL) (hrm : rm.frames + 1 ≤ R.frames ∧ W0 + (mL + 11) + rm.locals ≤ R.locals ∧ catS rest ≤ W0 ∧ rm.cells = 0 ∧ rm.slots = 0 ∧ cells ≤ R.cells ∧ slots ≤ R.slots)
    (κ : ∀ x, u = some x → OkR p l e R s m args below meth c Z C fs n0 h0 F A w cells slots (pc + 3) Ls (.long x.1 :: rest) x.2 (K x)) : OkR p l e R s m args below meth c Z C fs n0 h0 F A w cells slots pc Ls St σ (u.bind K) :=
  am_callS (g := fJ) hl hd hc hS hst har hcon hm hrm κ
theorem am_callS_V {y : MethodName} {b : ByteArray} {mL i : Nat} {rt : Option FieldType} {rm : Room} {wc : Nat → Option CD} {argsL rest : List Value} {u : Option Sg} {K : Sg → Option α} {W0 : Nat} (hl : LkS Z a0 own i y b mL rt) (hd : decode bytes pc = .ok (.invokestatic i, 3)) (hc : Cx p s m meth c Z own bytes maxL ret mn) (hS : SubW wc w) (hst : St = argsL.reverse ++ rest) (har : arity y.desc argsL.length = true)
    (hcon : ∀ x, u = some x → Con l Z C fs y b mL rt rm wc argsL σ (fV x).1 (fV x).2) (hm : Ls.length = maxL) (hrm : rm.frames + 1 ≤ R.frames ∧ W0 + (mL + 11) + rm.locals ≤ R.locals ∧ catS rest ≤ W0 ∧ rm.cells = 0 ∧ rm.slots = 0 ∧ cells ≤ R.cells ∧ slots ≤ R.slots)
    (κ : ∀ x, u = some x → OkR p l e R s m args below meth c Z C fs n0 h0 F A w cells slots (pc + 3) Ls (rest) x (K x)) : OkR p l e R s m args below meth c Z C fs n0 h0 F A w cells slots pc Ls St σ (u.bind K) :=
  am_callS (g := fV) hl hd hc hS hst har hcon hm hrm κ
theorem am_tsw {x v : Int32} {vi dflt low high o : Int} {offs : Array Int} {len pcv : Nat} {t1 t2 : Option α} (hd : decode bytes pc = .ok (.tableswitch dflt low high offs, len)) (hin : ¬ (vi < low ∨ vi > high)) (hoff : offs[(vi - low).toNat]? = some o) (ho : 0 ≤ (pc : Int) + o) (hp : ((pc : Int) + o).toNat = pcv) (hv : v.toInt = vi) (hc : Cx p s m meth c Z own bytes maxL ret mn)
    (k1 : x = v → OkR p l e R s m args below meth c Z C fs n0 h0 F A w cells slots pcv Ls St σ t1) (k2 : x.toInt ≠ vi → OkR p l e R s m args below meth c Z C fs n0 h0 F A w cells slots pc Ls (.int x :: St) σ t2) : OkR p l e R s m args below meth c Z C fs n0 h0 F A w cells slots pc Ls (.int x :: St) σ (if x = v then t1 else t2) := by
  by_cases q : x = v
  · rw [if_pos q]
    intro x' hx T locs rl X W O N f L
    obtain ⟨s₂, o', st, r⟩ := k1 q x' hx T locs rl X W O N f L
    subst q
    subst hv
    exact ⟨s₂, o', XS.tswIn X.here hc.1 rfl (pc0 := pc) rfl (hb hc.2.2.1 hd) rfl hin hoff ho hp st, r⟩
  · rw [if_neg q]
    exact k2 fun e => q (Int32.toInt_inj.mp (e.trans hv.symm))
theorem am_tswD {x : Int32} {dflt low high : Int} {offs : Array Int} {len pcv : Nat} (hd : decode bytes pc = .ok (.tableswitch dflt low high offs, len)) (hout : x.toInt < low ∨ x.toInt > high) (ho : 0 ≤ (pc : Int) + dflt) (hp : ((pc : Int) + dflt).toNat = pcv) (hc : Cx p s m meth c Z own bytes maxL ret mn)
    (k1 : OkR p l e R s m args below meth c Z C fs n0 h0 F A w cells slots pcv Ls St σ t) : OkR p l e R s m args below meth c Z C fs n0 h0 F A w cells slots pc Ls (.int x :: St) σ t := by
  intro x' hx T locs rl X W O N f L
  obtain ⟨s₂, o', st, r⟩ := k1 x' hx T locs rl X W O N f L
  exact ⟨s₂, o', XS.tswOut X.here hc.1 rfl (pc0 := pc) rfl (hb hc.2.2.1 hd) rfl hout ho hp st, r⟩
theorem subF {arrs : List (FieldType × Nat)} {w0 : Nat → Option CD} (h : Rd w0 arrs.length) : SubW (wK arrs arrs.length arrs.length) (wF arrs w0) := by
  refine ⟨fun k d q => ?_, fun k d q => ?_⟩
  · unfold wF
    have : k ≤ arrs.length := by
      cases k with
      | zero => omega
      | succ k => simp only [wK] at q; split at q <;> first | omega | cases q
    rw [if_pos this]; exact q
  · unfold wF at q
    split at q
    · exact Or.inl q
    · exact Or.inr (h k d q).1
end AM6
def WH (a0 : Array Value) (Z : State) : Prop := ∀ d ∈ tables_1, d.before a0 Z = true
abbrev fsC : FS := [("roots", "[I", 2), ("heap", "[I", 3), ("pageCls", "[I", 4), ("pageShift", "[I", 5), ("liveMask", "[I", 6), ("liveCnt", "[I", 7), ("black", "[Z", 8), ("classPages", "[I", 9), ("markMask", "[I", 10), ("markStack", "[I", 11), ("pageCount", "I", 0), ("rootCap", "I", 0), ("depth", "I", 0), ("freePages", "I", 0), ("blackPages", "I", 0), ("liveTotal", "I", 0)]
abbrev arrsC : List (FieldType × Nat) := [(.int, 32), (.int, 256), (.int, 16), (.int, 16), (.int, 16), (.int, 16), (.boolean, 16), (.int, 5), (.int, 16), (.int, 256)]
abbrev wC : Nat → Option CD := wK arrsC 10 10
-- fields: 0:roots, 1:heap, 2:pageCls, 3:pageShift, 4:liveMask, 5:liveCnt, 6:black, 7:classPages, 8:markMask, 9:markStack, 10:pageCount, 11:rootCap, 12:depth, 13:freePages, 14:blackPages, 15:liveTotal
def flC : List (Nat × Nat) := [(7, 0), (13, 1), (16, 2), (19, 3), (22, 4), (25, 5), (28, 6), (32, 7), (35, 8), (38, 9), (41, 10), (45, 11), (48, 12), (55, 13), (58, 14), (61, 15)]
def pflC : List (Nat × Nat) := [(7, 0), (13, 1), (16, 2), (19, 3), (22, 4), (25, 5), (28, 6), (32, 7), (35, 8), (38, 9), (41, 10), (45, 11), (48, 12), (55, 13), (58, 14), (61, 15)]
def kIC : List (Nat × Int32) := []
def kJC : List (Nat × Int64) := []
def kIL : List (Nat × Int32) := []
def kJL : List (Nat × Int64) := []
theorem pnC : plainName "ConservativeBiY" = true := by first | (simp [plainName, overriddenIn]; done) | decide +kernel
theorem pnL : plainName "ConservativeBiYL2" = true := by first | (simp [plainName, overriddenIn]; done) | decide +kernel
section Words
variable {a0 : Array Value} {Z : State}
theorem wiC (hw : WH a0 Z) : (Cond.instantiable "ConservativeBiY" 19).before a0 Z = true := hw _ (List.mem_of_getElem? (i := 1) rfl)
theorem wzC (hw : WH a0 Z) : (Cond.initialized "ConservativeBiY").before a0 Z = true := hw _ (List.mem_of_getElem? (i := 2) rfl)
theorem fsok_1 : ∀ (j j' : Nat) (x x' : String × String × Nat), fsC[j]? = some x → fsC[j']? = some x' → x.1 = x'.1 → j = j' := by
  have key : (fsC.map (·.1)).Nodup := by decide
  intro j j' x x' h h' e
  have h1 : (fsC.map (·.1))[j]? = some x.1 := by rw [List.getElem?_map, h]; rfl
  have h2 : (fsC.map (·.1))[j']? = some x.1 := by rw [List.getElem?_map, h', e]; rfl
  obtain ⟨b1, e1⟩ := List.getElem?_eq_some_iff.mp h1
  obtain ⟨b2, e2⟩ := List.getElem?_eq_some_iff.mp h2
  exact (List.getElem?_inj b1 key).mp (h1.trans h2.symm)
theorem fsokC (hw : WH a0 Z) : FsOk Z a0 "ConservativeBiY" fsC := by
  intro j n d cd h
  refine ⟨?_, ?_, fun j' n' d' cd' h' e => fsok_1 j j' _ _ h h' e⟩
  all_goals (have hm := List.mem_of_getElem? h; simp only [fsC, List.mem_cons, List.not_mem_nil, or_false, Prod.mk.injEq] at hm)
  · rcases hm with ⟨rfl, rfl, rfl⟩ | ⟨rfl, rfl, rfl⟩ | ⟨rfl, rfl, rfl⟩ | ⟨rfl, rfl, rfl⟩ | ⟨rfl, rfl, rfl⟩ | ⟨rfl, rfl, rfl⟩ | ⟨rfl, rfl, rfl⟩ | ⟨rfl, rfl, rfl⟩ | ⟨rfl, rfl, rfl⟩ | ⟨rfl, rfl, rfl⟩ | ⟨rfl, rfl, rfl⟩ | ⟨rfl, rfl, rfl⟩ | ⟨rfl, rfl, rfl⟩ | ⟨rfl, rfl, rfl⟩ | ⟨rfl, rfl, rfl⟩ | ⟨rfl, rfl, rfl⟩
    · exact Or.inl (hw _ (List.mem_of_getElem? (i := 11) rfl))
    · exact Or.inl (hw _ (List.mem_of_getElem? (i := 13) rfl))
    · exact Or.inl (hw _ (List.mem_of_getElem? (i := 15) rfl))
    · exact Or.inl (hw _ (List.mem_of_getElem? (i := 17) rfl))
    · exact Or.inl (hw _ (List.mem_of_getElem? (i := 19) rfl))
    · exact Or.inl (hw _ (List.mem_of_getElem? (i := 21) rfl))
    · exact Or.inl (hw _ (List.mem_of_getElem? (i := 24) rfl))
    · exact Or.inl (hw _ (List.mem_of_getElem? (i := 26) rfl))
    · exact Or.inl (hw _ (List.mem_of_getElem? (i := 28) rfl))
    · exact Or.inl (hw _ (List.mem_of_getElem? (i := 30) rfl))
    · exact Or.inl (hw _ (List.mem_of_getElem? (i := 32) rfl))
    · exact Or.inl (hw _ (List.mem_of_getElem? (i := 34) rfl))
    · exact Or.inl (hw _ (List.mem_of_getElem? (i := 36) rfl))
    · exact Or.inl (hw _ (List.mem_of_getElem? (i := 42) rfl))
    · exact Or.inl (hw _ (List.mem_of_getElem? (i := 44) rfl))
    · exact Or.inl (hw _ (List.mem_of_getElem? (i := 46) rfl))
  · rcases hm with ⟨rfl, rfl, rfl⟩ | ⟨rfl, rfl, rfl⟩ | ⟨rfl, rfl, rfl⟩ | ⟨rfl, rfl, rfl⟩ | ⟨rfl, rfl, rfl⟩ | ⟨rfl, rfl, rfl⟩ | ⟨rfl, rfl, rfl⟩ | ⟨rfl, rfl, rfl⟩ | ⟨rfl, rfl, rfl⟩ | ⟨rfl, rfl, rfl⟩ | ⟨rfl, rfl, rfl⟩ | ⟨rfl, rfl, rfl⟩ | ⟨rfl, rfl, rfl⟩ | ⟨rfl, rfl, rfl⟩ | ⟨rfl, rfl, rfl⟩ | ⟨rfl, rfl, rfl⟩
    · exact ⟨.array .int, by decide +kernel, fun q => absurd q (by decide), fun q => absurd q (by decide), fun _ => ⟨_, rfl⟩⟩
    · exact ⟨.array .int, by decide +kernel, fun q => absurd q (by decide), fun q => absurd q (by decide), fun _ => ⟨_, rfl⟩⟩
    · exact ⟨.array .int, by decide +kernel, fun q => absurd q (by decide), fun q => absurd q (by decide), fun _ => ⟨_, rfl⟩⟩
    · exact ⟨.array .int, by decide +kernel, fun q => absurd q (by decide), fun q => absurd q (by decide), fun _ => ⟨_, rfl⟩⟩
    · exact ⟨.array .int, by decide +kernel, fun q => absurd q (by decide), fun q => absurd q (by decide), fun _ => ⟨_, rfl⟩⟩
    · exact ⟨.array .int, by decide +kernel, fun q => absurd q (by decide), fun q => absurd q (by decide), fun _ => ⟨_, rfl⟩⟩
    · exact ⟨.array .boolean, by decide +kernel, fun q => absurd q (by decide), fun q => absurd q (by decide), fun _ => ⟨_, rfl⟩⟩
    · exact ⟨.array .int, by decide +kernel, fun q => absurd q (by decide), fun q => absurd q (by decide), fun _ => ⟨_, rfl⟩⟩
    · exact ⟨.array .int, by decide +kernel, fun q => absurd q (by decide), fun q => absurd q (by decide), fun _ => ⟨_, rfl⟩⟩
    · exact ⟨.array .int, by decide +kernel, fun q => absurd q (by decide), fun q => absurd q (by decide), fun _ => ⟨_, rfl⟩⟩
    · exact ⟨.int, by decide +kernel, fun _ => rfl, fun q => absurd q (by decide), fun q => absurd q (by decide)⟩
    · exact ⟨.int, by decide +kernel, fun _ => rfl, fun q => absurd q (by decide), fun q => absurd q (by decide)⟩
    · exact ⟨.int, by decide +kernel, fun _ => rfl, fun q => absurd q (by decide), fun q => absurd q (by decide)⟩
    · exact ⟨.int, by decide +kernel, fun _ => rfl, fun q => absurd q (by decide), fun q => absurd q (by decide)⟩
    · exact ⟨.int, by decide +kernel, fun _ => rfl, fun q => absurd q (by decide), fun q => absurd q (by decide)⟩
    · exact ⟨.int, by decide +kernel, fun _ => rfl, fun q => absurd q (by decide), fun q => absurd q (by decide)⟩
theorem tabC (hw : WH a0 Z) (mn : String) : Tab Z a0 "ConservativeBiY" "ConservativeBiY" mn fsC flC pflC kIC kJC := by
  refine ⟨fun x hx => ?_, fun x hx => ?_, fun x hx => ?_, fun x hx => ?_⟩
  · simp only [flC, List.mem_cons, List.not_mem_nil, or_false] at hx
    rcases hx with rfl | rfl | rfl | rfl | rfl | rfl | rfl | rfl | rfl | rfl | rfl | rfl | rfl | rfl | rfl | rfl
    · exact ⟨_, _, _, rfl, hw _ (List.mem_of_getElem? (i := 10) rfl)⟩
    · exact ⟨_, _, _, rfl, hw _ (List.mem_of_getElem? (i := 12) rfl)⟩
    · exact ⟨_, _, _, rfl, hw _ (List.mem_of_getElem? (i := 14) rfl)⟩
    · exact ⟨_, _, _, rfl, hw _ (List.mem_of_getElem? (i := 16) rfl)⟩
    · exact ⟨_, _, _, rfl, hw _ (List.mem_of_getElem? (i := 18) rfl)⟩
    · exact ⟨_, _, _, rfl, hw _ (List.mem_of_getElem? (i := 20) rfl)⟩
    · exact ⟨_, _, _, rfl, hw _ (List.mem_of_getElem? (i := 23) rfl)⟩
    · exact ⟨_, _, _, rfl, hw _ (List.mem_of_getElem? (i := 25) rfl)⟩
    · exact ⟨_, _, _, rfl, hw _ (List.mem_of_getElem? (i := 27) rfl)⟩
    · exact ⟨_, _, _, rfl, hw _ (List.mem_of_getElem? (i := 29) rfl)⟩
    · exact ⟨_, _, _, rfl, hw _ (List.mem_of_getElem? (i := 31) rfl)⟩
    · exact ⟨_, _, _, rfl, hw _ (List.mem_of_getElem? (i := 33) rfl)⟩
    · exact ⟨_, _, _, rfl, hw _ (List.mem_of_getElem? (i := 35) rfl)⟩
    · exact ⟨_, _, _, rfl, hw _ (List.mem_of_getElem? (i := 41) rfl)⟩
    · exact ⟨_, _, _, rfl, hw _ (List.mem_of_getElem? (i := 43) rfl)⟩
    · exact ⟨_, _, _, rfl, hw _ (List.mem_of_getElem? (i := 45) rfl)⟩
  · simp only [pflC, List.mem_cons, List.not_mem_nil, or_false] at hx
    rcases hx with rfl | rfl | rfl | rfl | rfl | rfl | rfl | rfl | rfl | rfl | rfl | rfl | rfl | rfl | rfl | rfl
    · exact ⟨_, _, _, rfl, hw _ (List.mem_of_getElem? (i := 10) rfl), Or.inl (hw _ (List.mem_of_getElem? (i := 11) rfl))⟩
    · exact ⟨_, _, _, rfl, hw _ (List.mem_of_getElem? (i := 12) rfl), Or.inl (hw _ (List.mem_of_getElem? (i := 13) rfl))⟩
    · exact ⟨_, _, _, rfl, hw _ (List.mem_of_getElem? (i := 14) rfl), Or.inl (hw _ (List.mem_of_getElem? (i := 15) rfl))⟩
    · exact ⟨_, _, _, rfl, hw _ (List.mem_of_getElem? (i := 16) rfl), Or.inl (hw _ (List.mem_of_getElem? (i := 17) rfl))⟩
    · exact ⟨_, _, _, rfl, hw _ (List.mem_of_getElem? (i := 18) rfl), Or.inl (hw _ (List.mem_of_getElem? (i := 19) rfl))⟩
    · exact ⟨_, _, _, rfl, hw _ (List.mem_of_getElem? (i := 20) rfl), Or.inl (hw _ (List.mem_of_getElem? (i := 21) rfl))⟩
    · exact ⟨_, _, _, rfl, hw _ (List.mem_of_getElem? (i := 23) rfl), Or.inl (hw _ (List.mem_of_getElem? (i := 24) rfl))⟩
    · exact ⟨_, _, _, rfl, hw _ (List.mem_of_getElem? (i := 25) rfl), Or.inl (hw _ (List.mem_of_getElem? (i := 26) rfl))⟩
    · exact ⟨_, _, _, rfl, hw _ (List.mem_of_getElem? (i := 27) rfl), Or.inl (hw _ (List.mem_of_getElem? (i := 28) rfl))⟩
    · exact ⟨_, _, _, rfl, hw _ (List.mem_of_getElem? (i := 29) rfl), Or.inl (hw _ (List.mem_of_getElem? (i := 30) rfl))⟩
    · exact ⟨_, _, _, rfl, hw _ (List.mem_of_getElem? (i := 31) rfl), Or.inl (hw _ (List.mem_of_getElem? (i := 32) rfl))⟩
    · exact ⟨_, _, _, rfl, hw _ (List.mem_of_getElem? (i := 33) rfl), Or.inl (hw _ (List.mem_of_getElem? (i := 34) rfl))⟩
    · exact ⟨_, _, _, rfl, hw _ (List.mem_of_getElem? (i := 35) rfl), Or.inl (hw _ (List.mem_of_getElem? (i := 36) rfl))⟩
    · exact ⟨_, _, _, rfl, hw _ (List.mem_of_getElem? (i := 41) rfl), Or.inl (hw _ (List.mem_of_getElem? (i := 42) rfl))⟩
    · exact ⟨_, _, _, rfl, hw _ (List.mem_of_getElem? (i := 43) rfl), Or.inl (hw _ (List.mem_of_getElem? (i := 44) rfl))⟩
    · exact ⟨_, _, _, rfl, hw _ (List.mem_of_getElem? (i := 45) rfl), Or.inl (hw _ (List.mem_of_getElem? (i := 46) rfl))⟩
  · simp [kIC] at hx
  · simp [kJC] at hx
theorem tabI (hw : WH a0 Z) : Tab Z a0 "ConservativeBiY" "ConservativeBiY" "<init>" fsC flC flC kIC kJC := by
  refine ⟨fun x hx => ?_, fun x hx => ?_, fun x hx => ?_, fun x hx => ?_⟩
  · simp only [flC, List.mem_cons, List.not_mem_nil, or_false] at hx
    rcases hx with rfl | rfl | rfl | rfl | rfl | rfl | rfl | rfl | rfl | rfl | rfl | rfl | rfl | rfl | rfl | rfl
    · exact ⟨_, _, _, rfl, hw _ (List.mem_of_getElem? (i := 10) rfl)⟩
    · exact ⟨_, _, _, rfl, hw _ (List.mem_of_getElem? (i := 12) rfl)⟩
    · exact ⟨_, _, _, rfl, hw _ (List.mem_of_getElem? (i := 14) rfl)⟩
    · exact ⟨_, _, _, rfl, hw _ (List.mem_of_getElem? (i := 16) rfl)⟩
    · exact ⟨_, _, _, rfl, hw _ (List.mem_of_getElem? (i := 18) rfl)⟩
    · exact ⟨_, _, _, rfl, hw _ (List.mem_of_getElem? (i := 20) rfl)⟩
    · exact ⟨_, _, _, rfl, hw _ (List.mem_of_getElem? (i := 23) rfl)⟩
    · exact ⟨_, _, _, rfl, hw _ (List.mem_of_getElem? (i := 25) rfl)⟩
    · exact ⟨_, _, _, rfl, hw _ (List.mem_of_getElem? (i := 27) rfl)⟩
    · exact ⟨_, _, _, rfl, hw _ (List.mem_of_getElem? (i := 29) rfl)⟩
    · exact ⟨_, _, _, rfl, hw _ (List.mem_of_getElem? (i := 31) rfl)⟩
    · exact ⟨_, _, _, rfl, hw _ (List.mem_of_getElem? (i := 33) rfl)⟩
    · exact ⟨_, _, _, rfl, hw _ (List.mem_of_getElem? (i := 35) rfl)⟩
    · exact ⟨_, _, _, rfl, hw _ (List.mem_of_getElem? (i := 41) rfl)⟩
    · exact ⟨_, _, _, rfl, hw _ (List.mem_of_getElem? (i := 43) rfl)⟩
    · exact ⟨_, _, _, rfl, hw _ (List.mem_of_getElem? (i := 45) rfl)⟩
  · simp only [flC, List.mem_cons, List.not_mem_nil, or_false] at hx
    rcases hx with rfl | rfl | rfl | rfl | rfl | rfl | rfl | rfl | rfl | rfl | rfl | rfl | rfl | rfl | rfl | rfl
    · exact ⟨_, _, _, rfl, hw _ (List.mem_of_getElem? (i := 10) rfl), Or.inl (hw _ (List.mem_of_getElem? (i := 11) rfl))⟩
    · exact ⟨_, _, _, rfl, hw _ (List.mem_of_getElem? (i := 12) rfl), Or.inl (hw _ (List.mem_of_getElem? (i := 13) rfl))⟩
    · exact ⟨_, _, _, rfl, hw _ (List.mem_of_getElem? (i := 14) rfl), Or.inl (hw _ (List.mem_of_getElem? (i := 15) rfl))⟩
    · exact ⟨_, _, _, rfl, hw _ (List.mem_of_getElem? (i := 16) rfl), Or.inl (hw _ (List.mem_of_getElem? (i := 17) rfl))⟩
    · exact ⟨_, _, _, rfl, hw _ (List.mem_of_getElem? (i := 18) rfl), Or.inl (hw _ (List.mem_of_getElem? (i := 19) rfl))⟩
    · exact ⟨_, _, _, rfl, hw _ (List.mem_of_getElem? (i := 20) rfl), Or.inl (hw _ (List.mem_of_getElem? (i := 21) rfl))⟩
    · exact ⟨_, _, _, rfl, hw _ (List.mem_of_getElem? (i := 23) rfl), Or.inl (hw _ (List.mem_of_getElem? (i := 24) rfl))⟩
    · exact ⟨_, _, _, rfl, hw _ (List.mem_of_getElem? (i := 25) rfl), Or.inl (hw _ (List.mem_of_getElem? (i := 26) rfl))⟩
    · exact ⟨_, _, _, rfl, hw _ (List.mem_of_getElem? (i := 27) rfl), Or.inl (hw _ (List.mem_of_getElem? (i := 28) rfl))⟩
    · exact ⟨_, _, _, rfl, hw _ (List.mem_of_getElem? (i := 29) rfl), Or.inl (hw _ (List.mem_of_getElem? (i := 30) rfl))⟩
    · exact ⟨_, _, _, rfl, hw _ (List.mem_of_getElem? (i := 31) rfl), Or.inl (hw _ (List.mem_of_getElem? (i := 32) rfl))⟩
    · exact ⟨_, _, _, rfl, hw _ (List.mem_of_getElem? (i := 33) rfl), Or.inl (hw _ (List.mem_of_getElem? (i := 34) rfl))⟩
    · exact ⟨_, _, _, rfl, hw _ (List.mem_of_getElem? (i := 35) rfl), Or.inl (hw _ (List.mem_of_getElem? (i := 36) rfl))⟩
    · exact ⟨_, _, _, rfl, hw _ (List.mem_of_getElem? (i := 41) rfl), Or.inl (hw _ (List.mem_of_getElem? (i := 42) rfl))⟩
    · exact ⟨_, _, _, rfl, hw _ (List.mem_of_getElem? (i := 43) rfl), Or.inl (hw _ (List.mem_of_getElem? (i := 44) rfl))⟩
    · exact ⟨_, _, _, rfl, hw _ (List.mem_of_getElem? (i := 45) rfl), Or.inl (hw _ (List.mem_of_getElem? (i := 46) rfl))⟩
  · simp [kIC] at hx
  · simp [kJC] at hx
theorem tabL (hw : WH a0 Z) (mn : String) : Tab Z a0 "ConservativeBiY" "ConservativeBiYL2" mn fsC [] [] kIL kJL := by
  refine ⟨fun x hx => ?_, fun x hx => ?_, fun x hx => ?_, fun x hx => ?_⟩
  · cases hx
  · cases hx
  · simp [kIL] at hx
  · simp [kJL] at hx
theorem lk_L_9 (hw : WH a0 Z) : LkI Z a0 "ConservativeBiYL2" 9 (⟨"ConservativeBiY", "<init>", "(II)V"⟩ : MethodName) prog_1_method_1_code 5 := ⟨hw _ (List.mem_of_getElem? (i := 3) rfl), hw _ (List.mem_of_getElem? (i := 4) rfl), hw _ (List.mem_of_getElem? (i := 5) rfl), hw _ (List.mem_of_getElem? (i := 2) rfl), by unfold notMH; decide, rfl⟩
theorem lk_C_51 (hw : WH a0 Z) : LkP Z a0 "ConservativeBiY" 51 (⟨"ConservativeBiY", "validPageMask", "()I"⟩ : MethodName) prog_1_method_15_code 1 (some .int) := ⟨hw _ (List.mem_of_getElem? (i := 37) rfl), hw _ (List.mem_of_getElem? (i := 38) rfl), hw _ (List.mem_of_getElem? (i := 40) rfl), hw _ (List.mem_of_getElem? (i := 2) rfl), by unfold notMH; decide, hw _ (List.mem_of_getElem? (i := 39) rfl)⟩
theorem lk_L_12 (hw : WH a0 Z) : LkV Z a0 "ConservativeBiYL2" 12 (⟨"ConservativeBiY", "alloc", "(I)I"⟩ : MethodName) prog_1_method_8_code 4 (some .int) := ⟨hw _ (List.mem_of_getElem? (i := 47) rfl), hw _ (List.mem_of_getElem? (i := 49) rfl), hw _ (List.mem_of_getElem? (i := 51) rfl), hw _ (List.mem_of_getElem? (i := 2) rfl), by unfold notMH; decide, hw _ (List.mem_of_getElem? (i := 48) rfl), hw _ (List.mem_of_getElem? (i := 50) rfl)⟩
theorem lk_C_68 (hw : WH a0 Z) : LkP Z a0 "ConservativeBiY" 68 (⟨"ConservativeBiY", "classIndexFor", "(I)I"⟩ : MethodName) prog_1_method_13_code 3 (some .int) := ⟨hw _ (List.mem_of_getElem? (i := 52) rfl), hw _ (List.mem_of_getElem? (i := 53) rfl), hw _ (List.mem_of_getElem? (i := 55) rfl), hw _ (List.mem_of_getElem? (i := 2) rfl), by unfold notMH; decide, hw _ (List.mem_of_getElem? (i := 54) rfl)⟩
theorem lk_C_72 (hw : WH a0 Z) : LkP Z a0 "ConservativeBiY" 72 (⟨"ConservativeBiY", "allocInClassPage", "(I)I"⟩ : MethodName) prog_1_method_9_code 6 (some .int) := ⟨hw _ (List.mem_of_getElem? (i := 56) rfl), hw _ (List.mem_of_getElem? (i := 57) rfl), hw _ (List.mem_of_getElem? (i := 59) rfl), hw _ (List.mem_of_getElem? (i := 2) rfl), by unfold notMH; decide, hw _ (List.mem_of_getElem? (i := 58) rfl)⟩
theorem lk_C_78 (hw : WH a0 Z) : LkP Z a0 "ConservativeBiY" 78 (⟨"ConservativeBiY", "lowestBit", "(I)I"⟩ : MethodName) prog_1_method_40_code 3 (some .int) := ⟨hw _ (List.mem_of_getElem? (i := 60) rfl), hw _ (List.mem_of_getElem? (i := 61) rfl), hw _ (List.mem_of_getElem? (i := 63) rfl), hw _ (List.mem_of_getElem? (i := 2) rfl), by unfold notMH; decide, hw _ (List.mem_of_getElem? (i := 62) rfl)⟩
theorem lk_C_75 (hw : WH a0 Z) : LkP Z a0 "ConservativeBiY" 75 (⟨"ConservativeBiY", "allocInFreshPage", "(I)I"⟩ : MethodName) prog_1_method_10_code 4 (some .int) := ⟨hw _ (List.mem_of_getElem? (i := 64) rfl), hw _ (List.mem_of_getElem? (i := 65) rfl), hw _ (List.mem_of_getElem? (i := 67) rfl), hw _ (List.mem_of_getElem? (i := 2) rfl), by unfold notMH; decide, hw _ (List.mem_of_getElem? (i := 66) rfl)⟩
theorem lk_C_84 (hw : WH a0 Z) : LkP Z a0 "ConservativeBiY" 84 (⟨"ConservativeBiY", "placeObject", "(II)I"⟩ : MethodName) prog_1_method_11_code 5 (some .int) := ⟨hw _ (List.mem_of_getElem? (i := 68) rfl), hw _ (List.mem_of_getElem? (i := 69) rfl), hw _ (List.mem_of_getElem? (i := 71) rfl), hw _ (List.mem_of_getElem? (i := 2) rfl), by unfold notMH; decide, hw _ (List.mem_of_getElem? (i := 70) rfl)⟩
theorem lk_C_88 (hw : WH a0 Z) : LkP Z a0 "ConservativeBiY" 88 (⟨"ConservativeBiY", "slotStart", "(II)I"⟩ : MethodName) prog_1_method_21_code 3 (some .int) := ⟨hw _ (List.mem_of_getElem? (i := 72) rfl), hw _ (List.mem_of_getElem? (i := 73) rfl), hw _ (List.mem_of_getElem? (i := 75) rfl), hw _ (List.mem_of_getElem? (i := 2) rfl), by unfold notMH; decide, hw _ (List.mem_of_getElem? (i := 74) rfl)⟩
theorem lk_C_91 (hw : WH a0 Z) : LkP Z a0 "ConservativeBiY" 91 (⟨"ConservativeBiY", "clearWords", "(II)V"⟩ : MethodName) prog_1_method_12_code 6 none := ⟨hw _ (List.mem_of_getElem? (i := 76) rfl), hw _ (List.mem_of_getElem? (i := 77) rfl), hw _ (List.mem_of_getElem? (i := 79) rfl), hw _ (List.mem_of_getElem? (i := 2) rfl), by unfold notMH; decide, hw _ (List.mem_of_getElem? (i := 78) rfl)⟩
theorem lk_C_95 (hw : WH a0 Z) : LkP Z a0 "ConservativeBiY" 95 (⟨"ConservativeBiY", "refreshPage", "(I)V"⟩ : MethodName) prog_1_method_16_code 5 none := ⟨hw _ (List.mem_of_getElem? (i := 80) rfl), hw _ (List.mem_of_getElem? (i := 81) rfl), hw _ (List.mem_of_getElem? (i := 83) rfl), hw _ (List.mem_of_getElem? (i := 2) rfl), by unfold notMH; decide, hw _ (List.mem_of_getElem? (i := 82) rfl)⟩
theorem lk_C_81 (hw : WH a0 Z) : LkP Z a0 "ConservativeBiY" 81 (⟨"ConservativeBiY", "slotMaskFor", "(I)I"⟩ : MethodName) prog_1_method_14_code 3 (some .int) := ⟨hw _ (List.mem_of_getElem? (i := 84) rfl), hw _ (List.mem_of_getElem? (i := 85) rfl), hw _ (List.mem_of_getElem? (i := 87) rfl), hw _ (List.mem_of_getElem? (i := 2) rfl), by unfold notMH; decide, hw _ (List.mem_of_getElem? (i := 86) rfl)⟩
theorem lk_L_16 (hw : WH a0 Z) : LkV Z a0 "ConservativeBiYL2" 16 (⟨"ConservativeBiY", "store", "(II)Z"⟩ : MethodName) prog_1_method_17_code 5 (some .boolean) := ⟨hw _ (List.mem_of_getElem? (i := 88) rfl), hw _ (List.mem_of_getElem? (i := 90) rfl), hw _ (List.mem_of_getElem? (i := 92) rfl), hw _ (List.mem_of_getElem? (i := 2) rfl), by unfold notMH; decide, hw _ (List.mem_of_getElem? (i := 89) rfl), hw _ (List.mem_of_getElem? (i := 91) rfl)⟩
theorem lk_C_99 (hw : WH a0 Z) : LkP Z a0 "ConservativeBiY" 99 (⟨"ConservativeBiY", "findStart", "(I)I"⟩ : MethodName) prog_1_method_23_code 4 (some .int) := ⟨hw _ (List.mem_of_getElem? (i := 93) rfl), hw _ (List.mem_of_getElem? (i := 94) rfl), hw _ (List.mem_of_getElem? (i := 96) rfl), hw _ (List.mem_of_getElem? (i := 2) rfl), by unfold notMH; decide, hw _ (List.mem_of_getElem? (i := 95) rfl)⟩
theorem lk_C_102 (hw : WH a0 Z) : LkP Z a0 "ConservativeBiY" 102 (⟨"ConservativeBiY", "pageOf", "(I)I"⟩ : MethodName) prog_1_method_19_code 3 (some .int) := ⟨hw _ (List.mem_of_getElem? (i := 97) rfl), hw _ (List.mem_of_getElem? (i := 98) rfl), hw _ (List.mem_of_getElem? (i := 100) rfl), hw _ (List.mem_of_getElem? (i := 2) rfl), by unfold notMH; decide, hw _ (List.mem_of_getElem? (i := 99) rfl)⟩
theorem lk_L_20 (hw : WH a0 Z) : LkV Z a0 "ConservativeBiYL2" 20 (⟨"ConservativeBiY", "load", "(I)I"⟩ : MethodName) prog_1_method_18_code 4 (some .int) := ⟨hw _ (List.mem_of_getElem? (i := 101) rfl), hw _ (List.mem_of_getElem? (i := 103) rfl), hw _ (List.mem_of_getElem? (i := 105) rfl), hw _ (List.mem_of_getElem? (i := 2) rfl), by unfold notMH; decide, hw _ (List.mem_of_getElem? (i := 102) rfl), hw _ (List.mem_of_getElem? (i := 104) rfl)⟩
theorem lk_L_23 (hw : WH a0 Z) : LkV Z a0 "ConservativeBiYL2" 23 (⟨"ConservativeBiY", "objectStart", "(I)I"⟩ : MethodName) prog_1_method_33_code 2 (some .int) := ⟨hw _ (List.mem_of_getElem? (i := 106) rfl), hw _ (List.mem_of_getElem? (i := 108) rfl), hw _ (List.mem_of_getElem? (i := 110) rfl), hw _ (List.mem_of_getElem? (i := 2) rfl), by unfold notMH; decide, hw _ (List.mem_of_getElem? (i := 107) rfl), hw _ (List.mem_of_getElem? (i := 109) rfl)⟩
theorem lk_L_26 (hw : WH a0 Z) : LkV Z a0 "ConservativeBiYL2" 26 (⟨"ConservativeBiY", "objectSize", "(I)I"⟩ : MethodName) prog_1_method_34_code 4 (some .int) := ⟨hw _ (List.mem_of_getElem? (i := 111) rfl), hw _ (List.mem_of_getElem? (i := 113) rfl), hw _ (List.mem_of_getElem? (i := 115) rfl), hw _ (List.mem_of_getElem? (i := 2) rfl), by unfold notMH; decide, hw _ (List.mem_of_getElem? (i := 112) rfl), hw _ (List.mem_of_getElem? (i := 114) rfl)⟩
theorem lk_L_29 (hw : WH a0 Z) : LkV Z a0 "ConservativeBiYL2" 29 (⟨"ConservativeBiY", "pageClass", "(I)I"⟩ : MethodName) prog_1_method_35_code 2 (some .int) := ⟨hw _ (List.mem_of_getElem? (i := 116) rfl), hw _ (List.mem_of_getElem? (i := 118) rfl), hw _ (List.mem_of_getElem? (i := 120) rfl), hw _ (List.mem_of_getElem? (i := 2) rfl), by unfold notMH; decide, hw _ (List.mem_of_getElem? (i := 117) rfl), hw _ (List.mem_of_getElem? (i := 119) rfl)⟩
theorem lk_C_149 (hw : WH a0 Z) : LkP Z a0 "ConservativeBiY" 149 (⟨"ConservativeBiY", "pageValid", "(I)Z"⟩ : MethodName) prog_1_method_39_code 2 (some .boolean) := ⟨hw _ (List.mem_of_getElem? (i := 121) rfl), hw _ (List.mem_of_getElem? (i := 122) rfl), hw _ (List.mem_of_getElem? (i := 124) rfl), hw _ (List.mem_of_getElem? (i := 2) rfl), by unfold notMH; decide, hw _ (List.mem_of_getElem? (i := 123) rfl)⟩
theorem lk_L_32 (hw : WH a0 Z) : LkV Z a0 "ConservativeBiYL2" 32 (⟨"ConservativeBiY", "pageLiveCount", "(I)I"⟩ : MethodName) prog_1_method_36_code 2 (some .int) := ⟨hw _ (List.mem_of_getElem? (i := 125) rfl), hw _ (List.mem_of_getElem? (i := 127) rfl), hw _ (List.mem_of_getElem? (i := 129) rfl), hw _ (List.mem_of_getElem? (i := 2) rfl), by unfold notMH; decide, hw _ (List.mem_of_getElem? (i := 126) rfl), hw _ (List.mem_of_getElem? (i := 128) rfl)⟩
theorem lk_L_35 (hw : WH a0 Z) : LkV Z a0 "ConservativeBiYL2" 35 (⟨"ConservativeBiY", "liveObjects", "()I"⟩ : MethodName) prog_1_method_38_code 1 (some .int) := ⟨hw _ (List.mem_of_getElem? (i := 130) rfl), hw _ (List.mem_of_getElem? (i := 132) rfl), hw _ (List.mem_of_getElem? (i := 134) rfl), hw _ (List.mem_of_getElem? (i := 2) rfl), by unfold notMH; decide, hw _ (List.mem_of_getElem? (i := 131) rfl), hw _ (List.mem_of_getElem? (i := 133) rfl)⟩
theorem lk_C_105 (hw : WH a0 Z) : LkP Z a0 "ConservativeBiY" 105 (⟨"ConservativeBiY", "slotOf", "(II)I"⟩ : MethodName) prog_1_method_20_code 4 (some .int) := ⟨hw _ (List.mem_of_getElem? (i := 135) rfl), hw _ (List.mem_of_getElem? (i := 136) rfl), hw _ (List.mem_of_getElem? (i := 138) rfl), hw _ (List.mem_of_getElem? (i := 2) rfl), by unfold notMH; decide, hw _ (List.mem_of_getElem? (i := 137) rfl)⟩
theorem lk_C_108 (hw : WH a0 Z) : LkP Z a0 "ConservativeBiY" 108 (⟨"ConservativeBiY", "slotLive", "(II)Z"⟩ : MethodName) prog_1_method_22_code 3 (some .boolean) := ⟨hw _ (List.mem_of_getElem? (i := 139) rfl), hw _ (List.mem_of_getElem? (i := 140) rfl), hw _ (List.mem_of_getElem? (i := 142) rfl), hw _ (List.mem_of_getElem? (i := 2) rfl), by unfold notMH; decide, hw _ (List.mem_of_getElem? (i := 141) rfl)⟩
end Words
section Walk
variable {p : Program} {l : Launch} {e : Env} {s : State} {m : MethodId} {args : Array Value} {below : List Frame} {meth : Method} {c : Code} {Z : State} {a0 : Array Value} {n0 : Nat} {h0 : Heap} {A A0 : Nat → Addr} {w w0 : Nat → Option CD} {sn : Nat} {sf : Nat → Int32}
abbrev rm_c_validPageMask : Room := { frames := 0, cells := 0, slots := 0, locals := 0 }
def c_validPageMask (σ : Sg) : Option (Int32 × Sg) :=
  some (((1 : Int32) <<< ((gi σ 0 10) &&& 31)) - (1 : Int32), σ)
set_option maxRecDepth 65536 in
set_option maxHeartbeats 4000000 in
theorem ok_c_validPageMask (hw : WH a0 Z) (σ : Sg) : ∀ x, c_validPageMask σ = some x → Con l Z "ConservativeBiY" fsC (⟨"ConservativeBiY", "validPageMask", "()I"⟩ : MethodName) prog_1_method_15_code 1 (some .int) rm_c_validPageMask wC [.ref 0] σ (fI x).1 (fI x).2 := by
  refine am_con pnC ?_
  intro p e s m below meth c A n0 h0 hc
  have hT := tabC hw "validPageMask"
  have hF := fsokC hw
  have wi := wiC hw
  unfold c_validPageMask
  refine am_blk (pc' := 8) (Ls' := [.val (.ref 0)]) (St' := [.int (((1 : Int32) <<< ((gi σ 0 10) &&& 31)) - (1 : Int32))]) (σ' := σ) [.iconst 1, .aload_n 0, .getfield 41, .ishl, .iconst 1, .isub] (by decide +kernel) hc hT hF wi (by exact rfl) ?_
  exact am_retI (by decide +kernel) hc (by decide) (by decide) (fun h W O => ⟨rfl, W, O⟩)
abbrev rm_c_init : Room := { frames := 1, cells := 10, slots := 645, locals := 13 }
def c_init_131 (x4 : Int32) (σ : Sg) : Option Sg :=
  (c_validPageMask (si (si σ 0 11 x4) 0 12 (0 : Int32))).bind fun r1 => some (si (si (si r1.2 0 13 r1.1) 0 14 (0 : Int32)) 0 15 (0 : Int32))
set_option maxRecDepth 65536 in
set_option maxHeartbeats 4000000 in
theorem okc_c_init_131 (hw : WH a0 Z) (hc : Cx p s m meth c Z "ConservativeBiY" prog_1_method_1_code 5 none "<init>") (hAE10 : AE h0 A0 A 10) (x4 : Int32) (σ : Sg) : OkR p l e rm_c_init s m args below meth c Z "ConservativeBiY" fsC n0 h0 (FI Z "ConservativeBiY" fsC arrsC A0 h0) A (wK arrsC 10 10) 10 645 131 [.val (.ref 0), .unset, .unset, .unset, .val (.int x4)] [] σ (c_init_131 x4 σ) := by
  have hT := tabI hw
  have hF := fsokC hw
  have wi := wiC hw
  unfold c_init_131
  refine am_blk (pc' := 144) (Ls' := [.val (.ref 0), .unset, .unset, .unset, .val (.int x4)]) (St' := [.ref 0, .ref 0]) (σ' := si (si σ 0 11 x4) 0 12 (0 : Int32)) [.aload_n 0, .iload 4, .putfield 45, .aload_n 0, .iconst 0, .putfield 48, .aload_n 0, .aload_n 0] (by decide +kernel) hc hT hF wi (by exact rfl) ?_
  refine am_callP_I (W0 := 1) (argsL := []) (rest := [.ref 0]) rfl (lk_C_51 hw) rfl wi (by decide +kernel) hc (SubW.refl _) rfl (by show arity "()I" 0 = true; decide +kernel) (ok_c_validPageMask hw _) rfl ⟨by decide, by decide, Nat.le_of_eq rfl, rfl, rfl, by decide, by decide⟩ (fun r1 hr => ?_)
  refine am_blk (pc' := 160) (Ls' := [.val (.ref 0), .unset, .unset, .unset, .val (.int x4)]) (St' := []) (σ' := si (si (si r1.2 0 13 r1.1) 0 14 (0 : Int32)) 0 15 (0 : Int32)) [.putfield 55, .aload_n 0, .iconst 0, .putfield 58, .aload_n 0, .iconst 0, .putfield 61] (by decide +kernel) hc hT hF wi (by exact rfl) ?_
  exact am_retV (by decide +kernel) hc (by decide) (by decide) (fun h W O => FI_of hAE10 h W O)
def c_init_120 (x4 : Int32) (σ : Sg) : Option Sg :=
  if (32 : Int32) < x4 then (c_init_131 (32 : Int32) σ) else (c_init_131 x4 σ)
set_option maxRecDepth 65536 in
set_option maxHeartbeats 4000000 in
theorem okc_c_init_120 (hw : WH a0 Z) (hc : Cx p s m meth c Z "ConservativeBiY" prog_1_method_1_code 5 none "<init>") (hAE10 : AE h0 A0 A 10) (x4 : Int32) (σ : Sg) : OkR p l e rm_c_init s m args below meth c Z "ConservativeBiY" fsC n0 h0 (FI Z "ConservativeBiY" fsC arrsC A0 h0) A (wK arrsC 10 10) 10 645 120 [.val (.ref 0), .unset, .unset, .unset, .val (.int x4)] [] σ (c_init_120 x4 σ) := by
  have hT := tabI hw
  have hF := fsokC hw
  have wi := wiC hw
  unfold c_init_120
  refine am_blk (pc' := 124) (Ls' := [.val (.ref 0), .unset, .unset, .unset, .val (.int x4)]) (St' := [.int (32 : Int32), .int x4]) (σ' := σ) [.iload 4, .bipush 32] (by decide +kernel) hc hT hF wi (by exact rfl) ?_
  refine am_icmp_le (o := 7) (pc1 := 131) (by decide +kernel) hc (fun hq => ?_) (fun hq => ?_)
  · refine am_blk (pc' := 131) (Ls' := [.val (.ref 0), .unset, .unset, .unset, .val (.int (32 : Int32))]) (St' := []) (σ' := σ) [.bipush 32, .istore 4] (by decide +kernel) hc hT hF wi (by exact rfl) ?_
    exact am_wk (Ls' := [.val (.ref 0), .unset, .unset, .unset, .val (.int (32 : Int32))]) (by simp [wkL]) (okc_c_init_131 hw hc hAE10 (32 : Int32) σ)
  · exact am_wk (Ls' := [.val (.ref 0), .unset, .unset, .unset, .val (.int x4)]) (by simp [wkL]) (okc_c_init_131 hw hc hAE10 x4 σ)
def c_init_103 (x2 : Int32) (x3 : Int32) (σ : Sg) : Option Sg :=
  if x2 < (1 : Int32) then (c_init_120 (1 : Int32) (si σ 0 10 x3)) else (c_init_120 x2 (si σ 0 10 x3))
set_option maxRecDepth 65536 in
set_option maxHeartbeats 4000000 in
theorem okc_c_init_103 (hw : WH a0 Z) (hc : Cx p s m meth c Z "ConservativeBiY" prog_1_method_1_code 5 none "<init>") (hAE10 : AE h0 A0 A 10) (x2 : Int32) (x3 : Int32) (σ : Sg) : OkR p l e rm_c_init s m args below meth c Z "ConservativeBiY" fsC n0 h0 (FI Z "ConservativeBiY" fsC arrsC A0 h0) A (wK arrsC 10 10) 10 645 103 [.val (.ref 0), .unset, .val (.int x2), .val (.int x3), .unset] [] σ (c_init_103 x2 x3 σ) := by
  have hT := tabI hw
  have hF := fsokC hw
  have wi := wiC hw
  unfold c_init_103
  refine am_blk (pc' := 114) (Ls' := [.val (.ref 0), .unset, .val (.int x2), .val (.int x3), .val (.int x2)]) (St' := [.int (1 : Int32), .int x2]) (σ' := si σ 0 10 x3) [.aload_n 0, .iload_n 3, .putfield 41, .iload_n 2, .istore 4, .iload 4, .iconst 1] (by decide +kernel) hc hT hF wi (by exact rfl) ?_
  refine am_icmp_ge (o := 6) (pc1 := 120) (by decide +kernel) hc (fun hq => ?_) (fun hq => ?_)
  · refine am_blk (pc' := 120) (Ls' := [.val (.ref 0), .unset, .val (.int x2), .val (.int x3), .val (.int (1 : Int32))]) (St' := []) (σ' := si σ 0 10 x3) [.iconst 1, .istore 4] (by decide +kernel) hc hT hF wi (by exact rfl) ?_
    exact am_wk (Ls' := [.val (.ref 0), .unset, .unset, .unset, .val (.int (1 : Int32))]) (by simp [wkL]) (okc_c_init_120 hw hc hAE10 (1 : Int32) (si σ 0 10 x3))
  · exact am_wk (Ls' := [.val (.ref 0), .unset, .unset, .unset, .val (.int x2)]) (by simp [wkL]) (okc_c_init_120 hw hc hAE10 x2 (si σ 0 10 x3))
def c_init_94 (x2 : Int32) (x3 : Int32) (σ : Sg) : Option Sg :=
  if (16 : Int32) < x3 then (c_init_103 x2 (16 : Int32) σ) else (c_init_103 x2 x3 σ)
set_option maxRecDepth 65536 in
set_option maxHeartbeats 4000000 in
theorem okc_c_init_94 (hw : WH a0 Z) (hc : Cx p s m meth c Z "ConservativeBiY" prog_1_method_1_code 5 none "<init>") (hAE10 : AE h0 A0 A 10) (x2 : Int32) (x3 : Int32) (σ : Sg) : OkR p l e rm_c_init s m args below meth c Z "ConservativeBiY" fsC n0 h0 (FI Z "ConservativeBiY" fsC arrsC A0 h0) A (wK arrsC 10 10) 10 645 94 [.val (.ref 0), .unset, .val (.int x2), .val (.int x3), .unset] [] σ (c_init_94 x2 x3 σ) := by
  have hT := tabI hw
  have hF := fsokC hw
  have wi := wiC hw
  unfold c_init_94
  refine am_blk (pc' := 97) (Ls' := [.val (.ref 0), .unset, .val (.int x2), .val (.int x3), .unset]) (St' := [.int (16 : Int32), .int x3]) (σ' := σ) [.iload_n 3, .bipush 16] (by decide +kernel) hc hT hF wi (by exact rfl) ?_
  refine am_icmp_le (o := 6) (pc1 := 103) (by decide +kernel) hc (fun hq => ?_) (fun hq => ?_)
  · refine am_blk (pc' := 103) (Ls' := [.val (.ref 0), .unset, .val (.int x2), .val (.int (16 : Int32)), .unset]) (St' := []) (σ' := σ) [.bipush 16, .istore_n 3] (by decide +kernel) hc hT hF wi (by exact rfl) ?_
    exact am_wk (Ls' := [.val (.ref 0), .unset, .val (.int x2), .val (.int (16 : Int32)), .unset]) (by simp [wkL]) (okc_c_init_103 hw hc hAE10 x2 (16 : Int32) σ)
  · exact am_wk (Ls' := [.val (.ref 0), .unset, .val (.int x2), .val (.int x3), .unset]) (by simp [wkL]) (okc_c_init_103 hw hc hAE10 x2 x3 σ)
def c_init (x1 : Int32) (x2 : Int32) : Option Sg :=
  if x1 < (4 : Int32) then (c_init_94 x2 (4 : Int32) zs) else (c_init_94 x2 x1 zs)
set_option maxRecDepth 65536 in
set_option maxHeartbeats 4000000 in
theorem ok_c_init (hw : WH a0 Z) (x1 : Int32) (x2 : Int32) : ∀ x, c_init x1 x2 = some x → ConI l Z "ConservativeBiY" fsC arrsC (⟨"ConservativeBiY", "<init>", "(II)V"⟩ : MethodName) prog_1_method_1_code 5 rm_c_init [.int x1, .int x2] x := by
  refine am_conI pnC ?_
  intro p e s m below meth c A n0 h0 hn hc
  have hAE0 : AE h0 A A 0 := ⟨rfl, fun k q1 q2 => by omega⟩
  have hT := tabI hw
  have hF := fsokC hw
  have wi := wiC hw
  unfold c_init
  refine am_blk (pc' := 1) (Ls' := [.val (.ref 0), .val (.int x1), .val (.int x2), .unset, .unset]) (St' := [.ref 0]) (σ' := zs) [.aload_n 0] (by decide +kernel) hc hT hF wi (by exact rfl) ?_
  refine am_objinit (W0 := 0) (by decide +kernel) hc (hw _ (List.mem_of_getElem? (i := 6) rfl)) (hw _ (List.mem_of_getElem? (i := 7) rfl)) (hw _ (List.mem_of_getElem? (i := 8) rfl)) rfl ⟨by decide, by decide, Nat.le_of_eq rfl⟩ ?_
  refine am_blk (pc' := 7) (Ls' := [.val (.ref 0), .val (.int x1), .val (.int x2), .unset, .unset]) (St' := [.int (32 : Int32), .ref 0]) (σ' := zs) [.aload_n 0, .bipush 32] (by decide +kernel) hc hT hF wi (by exact rfl) ?_
  refine am_newarr (a := 0) (n := 32) (aty := .int) (by decide +kernel) hc (hw _ (List.mem_of_getElem? (i := 9) rfl)) rfl (by decide) rfl ⟨rfl, rfl⟩ hAE0 hn ⟨by decide, by decide, by decide⟩ (fun A hAE1 => ?_)
  refine am_putref (a := 0) (j := 0) (by decide +kernel) hc hF wi rfl (by decide) (hw _ (List.mem_of_getElem? (i := 10) rfl)) (Or.inl (hw _ (List.mem_of_getElem? (i := 11) rfl))) ?_
  refine am_blk (pc' := 16) (Ls' := [.val (.ref 0), .val (.int x1), .val (.int x2), .unset, .unset]) (St' := [.int (256 : Int32), .ref 0]) (σ' := zs) [.aload_n 0, .sipush 256] (by decide +kernel) hc hT hF wi (by exact rfl) ?_
  refine am_newarr (a := 1) (n := 256) (aty := .int) (by decide +kernel) hc (hw _ (List.mem_of_getElem? (i := 9) rfl)) rfl (by decide) rfl ⟨rfl, rfl⟩ hAE1 hn ⟨by decide, by decide, by decide⟩ (fun A hAE2 => ?_)
  refine am_putref (a := 1) (j := 1) (by decide +kernel) hc hF wi rfl (by decide) (hw _ (List.mem_of_getElem? (i := 12) rfl)) (Or.inl (hw _ (List.mem_of_getElem? (i := 13) rfl))) ?_
  refine am_blk (pc' := 24) (Ls' := [.val (.ref 0), .val (.int x1), .val (.int x2), .unset, .unset]) (St' := [.int (16 : Int32), .ref 0]) (σ' := zs) [.aload_n 0, .bipush 16] (by decide +kernel) hc hT hF wi (by exact rfl) ?_
  refine am_newarr (a := 2) (n := 16) (aty := .int) (by decide +kernel) hc (hw _ (List.mem_of_getElem? (i := 9) rfl)) rfl (by decide) rfl ⟨rfl, rfl⟩ hAE2 hn ⟨by decide, by decide, by decide⟩ (fun A hAE3 => ?_)
  refine am_putref (a := 2) (j := 2) (by decide +kernel) hc hF wi rfl (by decide) (hw _ (List.mem_of_getElem? (i := 14) rfl)) (Or.inl (hw _ (List.mem_of_getElem? (i := 15) rfl))) ?_
  refine am_blk (pc' := 32) (Ls' := [.val (.ref 0), .val (.int x1), .val (.int x2), .unset, .unset]) (St' := [.int (16 : Int32), .ref 0]) (σ' := zs) [.aload_n 0, .bipush 16] (by decide +kernel) hc hT hF wi (by exact rfl) ?_
  refine am_newarr (a := 3) (n := 16) (aty := .int) (by decide +kernel) hc (hw _ (List.mem_of_getElem? (i := 9) rfl)) rfl (by decide) rfl ⟨rfl, rfl⟩ hAE3 hn ⟨by decide, by decide, by decide⟩ (fun A hAE4 => ?_)
  refine am_putref (a := 3) (j := 3) (by decide +kernel) hc hF wi rfl (by decide) (hw _ (List.mem_of_getElem? (i := 16) rfl)) (Or.inl (hw _ (List.mem_of_getElem? (i := 17) rfl))) ?_
  refine am_blk (pc' := 40) (Ls' := [.val (.ref 0), .val (.int x1), .val (.int x2), .unset, .unset]) (St' := [.int (16 : Int32), .ref 0]) (σ' := zs) [.aload_n 0, .bipush 16] (by decide +kernel) hc hT hF wi (by exact rfl) ?_
  refine am_newarr (a := 4) (n := 16) (aty := .int) (by decide +kernel) hc (hw _ (List.mem_of_getElem? (i := 9) rfl)) rfl (by decide) rfl ⟨rfl, rfl⟩ hAE4 hn ⟨by decide, by decide, by decide⟩ (fun A hAE5 => ?_)
  refine am_putref (a := 4) (j := 4) (by decide +kernel) hc hF wi rfl (by decide) (hw _ (List.mem_of_getElem? (i := 18) rfl)) (Or.inl (hw _ (List.mem_of_getElem? (i := 19) rfl))) ?_
  refine am_blk (pc' := 48) (Ls' := [.val (.ref 0), .val (.int x1), .val (.int x2), .unset, .unset]) (St' := [.int (16 : Int32), .ref 0]) (σ' := zs) [.aload_n 0, .bipush 16] (by decide +kernel) hc hT hF wi (by exact rfl) ?_
  refine am_newarr (a := 5) (n := 16) (aty := .int) (by decide +kernel) hc (hw _ (List.mem_of_getElem? (i := 9) rfl)) rfl (by decide) rfl ⟨rfl, rfl⟩ hAE5 hn ⟨by decide, by decide, by decide⟩ (fun A hAE6 => ?_)
  refine am_putref (a := 5) (j := 5) (by decide +kernel) hc hF wi rfl (by decide) (hw _ (List.mem_of_getElem? (i := 20) rfl)) (Or.inl (hw _ (List.mem_of_getElem? (i := 21) rfl))) ?_
  refine am_blk (pc' := 56) (Ls' := [.val (.ref 0), .val (.int x1), .val (.int x2), .unset, .unset]) (St' := [.int (16 : Int32), .ref 0]) (σ' := zs) [.aload_n 0, .bipush 16] (by decide +kernel) hc hT hF wi (by exact rfl) ?_
  refine am_newarr (a := 6) (n := 16) (aty := .boolean) (by decide +kernel) hc (hw _ (List.mem_of_getElem? (i := 22) rfl)) rfl (by decide) rfl ⟨rfl, rfl⟩ hAE6 hn ⟨by decide, by decide, by decide⟩ (fun A hAE7 => ?_)
  refine am_putref (a := 6) (j := 6) (by decide +kernel) hc hF wi rfl (by decide) (hw _ (List.mem_of_getElem? (i := 23) rfl)) (Or.inl (hw _ (List.mem_of_getElem? (i := 24) rfl))) ?_
  refine am_blk (pc' := 63) (Ls' := [.val (.ref 0), .val (.int x1), .val (.int x2), .unset, .unset]) (St' := [.int (5 : Int32), .ref 0]) (σ' := zs) [.aload_n 0, .iconst 5] (by decide +kernel) hc hT hF wi (by exact rfl) ?_
  refine am_newarr (a := 7) (n := 5) (aty := .int) (by decide +kernel) hc (hw _ (List.mem_of_getElem? (i := 9) rfl)) rfl (by decide) rfl ⟨rfl, rfl⟩ hAE7 hn ⟨by decide, by decide, by decide⟩ (fun A hAE8 => ?_)
  refine am_putref (a := 7) (j := 7) (by decide +kernel) hc hF wi rfl (by decide) (hw _ (List.mem_of_getElem? (i := 25) rfl)) (Or.inl (hw _ (List.mem_of_getElem? (i := 26) rfl))) ?_
  refine am_blk (pc' := 71) (Ls' := [.val (.ref 0), .val (.int x1), .val (.int x2), .unset, .unset]) (St' := [.int (16 : Int32), .ref 0]) (σ' := zs) [.aload_n 0, .bipush 16] (by decide +kernel) hc hT hF wi (by exact rfl) ?_
  refine am_newarr (a := 8) (n := 16) (aty := .int) (by decide +kernel) hc (hw _ (List.mem_of_getElem? (i := 9) rfl)) rfl (by decide) rfl ⟨rfl, rfl⟩ hAE8 hn ⟨by decide, by decide, by decide⟩ (fun A hAE9 => ?_)
  refine am_putref (a := 8) (j := 8) (by decide +kernel) hc hF wi rfl (by decide) (hw _ (List.mem_of_getElem? (i := 27) rfl)) (Or.inl (hw _ (List.mem_of_getElem? (i := 28) rfl))) ?_
  refine am_blk (pc' := 80) (Ls' := [.val (.ref 0), .val (.int x1), .val (.int x2), .unset, .unset]) (St' := [.int (256 : Int32), .ref 0]) (σ' := zs) [.aload_n 0, .sipush 256] (by decide +kernel) hc hT hF wi (by exact rfl) ?_
  refine am_newarr (a := 9) (n := 256) (aty := .int) (by decide +kernel) hc (hw _ (List.mem_of_getElem? (i := 9) rfl)) rfl (by decide) rfl ⟨rfl, rfl⟩ hAE9 hn ⟨by decide, by decide, by decide⟩ (fun A hAE10 => ?_)
  refine am_putref (a := 9) (j := 9) (by decide +kernel) hc hF wi rfl (by decide) (hw _ (List.mem_of_getElem? (i := 29) rfl)) (Or.inl (hw _ (List.mem_of_getElem? (i := 30) rfl))) ?_
  refine am_blk (pc' := 89) (Ls' := [.val (.ref 0), .val (.int x1), .val (.int x2), .val (.int x1), .unset]) (St' := [.int (4 : Int32), .int x1]) (σ' := zs) [.iload_n 1, .istore_n 3, .iload_n 3, .iconst 4] (by decide +kernel) hc hT hF wi (by exact rfl) ?_
  refine am_icmp_ge (o := 5) (pc1 := 94) (by decide +kernel) hc (fun hq => ?_) (fun hq => ?_)
  · refine am_blk (pc' := 94) (Ls' := [.val (.ref 0), .val (.int x1), .val (.int x2), .val (.int (4 : Int32)), .unset]) (St' := []) (σ' := zs) [.iconst 4, .istore_n 3] (by decide +kernel) hc hT hF wi (by exact rfl) ?_
    exact am_wk (Ls' := [.val (.ref 0), .unset, .val (.int x2), .val (.int (4 : Int32)), .unset]) (by simp [wkL]) (okc_c_init_94 hw hc hAE10 x2 (4 : Int32) zs)
  · exact am_wk (Ls' := [.val (.ref 0), .unset, .val (.int x2), .val (.int x1), .unset]) (by simp [wkL]) (okc_c_init_94 hw hc hAE10 x2 x1 zs)
abbrev rm_c_classIndexFor : Room := { frames := 0, cells := 0, slots := 0, locals := 0 }
def c_classIndexFor_2 : Nat → Int32 → Int32 → Sg → Option (Int32 × Sg)
  | 0, _, _, _ => none
  | fuel + 1, x1, x2, σ =>
    if x2 < (5 : Int32) then (if ((1 : Int32) <<< (x2 &&& 31)) < x1 then (c_classIndexFor_2 fuel x1 (x2 + (1 : Int32)) σ) else (some (x2, σ))) else (some ((4 : Int32), σ))
set_option maxRecDepth 65536 in
set_option maxHeartbeats 4000000 in
theorem okc_c_classIndexFor_2 (hw : WH a0 Z) (hc : Cx p s m meth c Z "ConservativeBiY" prog_1_method_13_code 3 (some .int) "classIndexFor") : ∀ (fuel : Nat) (x1 : Int32) (x2 : Int32) (σ : Sg), OkR p l e rm_c_classIndexFor s m args below meth c Z "ConservativeBiY" fsC n0 h0 (FM Z "ConservativeBiY" fsC A wC h0 fI) A wC 0 0 2 [.unset, .val (.int x1), .val (.int x2)] [] σ (c_classIndexFor_2 fuel x1 x2 σ) := by
  have hT := tabC hw "classIndexFor"
  have hF := fsokC hw
  have wi := wiC hw
  intro fuel
  induction fuel with
  | zero => intro x1 x2 σ; exact am_none rfl
  | succ fuel ih =>
    intro x1 x2 σ
    rw [c_classIndexFor_2]
    refine am_blk (pc' := 4) (Ls' := [.unset, .val (.int x1), .val (.int x2)]) (St' := [.int (5 : Int32), .int x2]) (σ' := σ) [.iload_n 2, .iconst 5] (by decide +kernel) hc hT hF wi (by exact rfl) ?_
    refine am_icmp_ge (o := 18) (pc1 := 22) (by decide +kernel) hc (fun hq => ?_) (fun hq => ?_)
    · refine am_blk (pc' := 11) (Ls' := [.unset, .val (.int x1), .val (.int x2)]) (St' := [.int x1, .int ((1 : Int32) <<< (x2 &&& 31))]) (σ' := σ) [.iconst 1, .iload_n 2, .ishl, .iload_n 1] (by decide +kernel) hc hT hF wi (by exact rfl) ?_
      refine am_icmp_lt (o := 5) (pc1 := 16) (by decide +kernel) hc (fun hq => ?_) (fun hq => ?_)
      · refine am_blk (pc' := 2) (Ls' := [.unset, .val (.int x1), .val (.int (x2 + (1 : Int32)))]) (St' := []) (σ' := σ) [.iinc 2 1, .goto (-17)] (by decide +kernel) hc hT hF wi (by exact rfl) ?_
        exact am_wk (Ls' := [.unset, .val (.int x1), .val (.int (x2 + (1 : Int32)))]) (by simp [wkL]) (ih x1 (x2 + (1 : Int32)) σ)
      · refine am_blk (pc' := 15) (Ls' := [.unset, .val (.int x1), .val (.int x2)]) (St' := [.int x2]) (σ' := σ) [.iload_n 2] (by decide +kernel) hc hT hF wi (by exact rfl) ?_
        exact am_retI (by decide +kernel) hc (by decide) (by decide) (fun h W O => ⟨rfl, W, O⟩)
    · refine am_blk (pc' := 23) (Ls' := [.unset, .val (.int x1), .val (.int x2)]) (St' := [.int (4 : Int32)]) (σ' := σ) [.iconst 4] (by decide +kernel) hc hT hF wi (by exact rfl) ?_
      exact am_retI (by decide +kernel) hc (by decide) (by decide) (fun h W O => ⟨rfl, W, O⟩)
def c_classIndexFor (x1 : Int32) (σ : Sg) : Option (Int32 × Sg) :=
  c_classIndexFor_2 400 x1 (0 : Int32) σ
set_option maxRecDepth 65536 in
set_option maxHeartbeats 4000000 in
theorem ok_c_classIndexFor (hw : WH a0 Z) (x1 : Int32) (σ : Sg) : ∀ x, c_classIndexFor x1 σ = some x → Con l Z "ConservativeBiY" fsC (⟨"ConservativeBiY", "classIndexFor", "(I)I"⟩ : MethodName) prog_1_method_13_code 3 (some .int) rm_c_classIndexFor wC [.ref 0, .int x1] σ (fI x).1 (fI x).2 := by
  refine am_con pnC ?_
  intro p e s m below meth c A n0 h0 hc
  have hT := tabC hw "classIndexFor"
  have hF := fsokC hw
  have wi := wiC hw
  unfold c_classIndexFor
  refine am_blk (pc' := 2) (Ls' := [.val (.ref 0), .val (.int x1), .val (.int (0 : Int32))]) (St' := []) (σ' := σ) [.iconst 0, .istore_n 2] (by decide +kernel) hc hT hF wi (by exact rfl) ?_
  exact am_wk (Ls' := [.unset, .val (.int x1), .val (.int (0 : Int32))]) (by simp [wkL]) (okc_c_classIndexFor_2 hw hc 400 x1 (0 : Int32) σ)
abbrev rm_c_lowestBit : Room := { frames := 0, cells := 0, slots := 0, locals := 0 }
def c_lowestBit_2 : Nat → Int32 → Int32 → Sg → Option (Int32 × Sg)
  | 0, _, _, _ => none
  | fuel + 1, x1, x2, σ =>
    if x2 < (16 : Int32) then (if ((x1 >>> (x2 &&& 31)) &&& (1 : Int32)) = 0 then (c_lowestBit_2 fuel x1 (x2 + (1 : Int32)) σ) else (some (x2, σ))) else (some ((-1 : Int32), σ))
set_option maxRecDepth 65536 in
set_option maxHeartbeats 4000000 in
theorem okc_c_lowestBit_2 (hw : WH a0 Z) (hc : Cx p s m meth c Z "ConservativeBiY" prog_1_method_40_code 3 (some .int) "lowestBit") : ∀ (fuel : Nat) (x1 : Int32) (x2 : Int32) (σ : Sg), OkR p l e rm_c_lowestBit s m args below meth c Z "ConservativeBiY" fsC n0 h0 (FM Z "ConservativeBiY" fsC A wC h0 fI) A wC 0 0 2 [.unset, .val (.int x1), .val (.int x2)] [] σ (c_lowestBit_2 fuel x1 x2 σ) := by
  have hT := tabC hw "lowestBit"
  have hF := fsokC hw
  have wi := wiC hw
  intro fuel
  induction fuel with
  | zero => intro x1 x2 σ; exact am_none rfl
  | succ fuel ih =>
    intro x1 x2 σ
    rw [c_lowestBit_2]
    refine am_blk (pc' := 5) (Ls' := [.unset, .val (.int x1), .val (.int x2)]) (St' := [.int (16 : Int32), .int x2]) (σ' := σ) [.iload_n 2, .bipush 16] (by decide +kernel) hc hT hF wi (by exact rfl) ?_
    refine am_icmp_ge (o := 19) (pc1 := 24) (by decide +kernel) hc (fun hq => ?_) (fun hq => ?_)
    · refine am_blk (pc' := 13) (Ls' := [.unset, .val (.int x1), .val (.int x2)]) (St' := [.int ((x1 >>> (x2 &&& 31)) &&& (1 : Int32))]) (σ' := σ) [.iload_n 1, .iload_n 2, .ishr, .iconst 1, .iand] (by decide +kernel) hc hT hF wi (by exact rfl) ?_
      refine am_if_eq (o := 5) (pc1 := 18) (by decide +kernel) hc (fun hq => ?_) (fun hq => ?_)
      · refine am_blk (pc' := 2) (Ls' := [.unset, .val (.int x1), .val (.int (x2 + (1 : Int32)))]) (St' := []) (σ' := σ) [.iinc 2 1, .goto (-19)] (by decide +kernel) hc hT hF wi (by exact rfl) ?_
        exact am_wk (Ls' := [.unset, .val (.int x1), .val (.int (x2 + (1 : Int32)))]) (by simp [wkL]) (ih x1 (x2 + (1 : Int32)) σ)
      · refine am_blk (pc' := 17) (Ls' := [.unset, .val (.int x1), .val (.int x2)]) (St' := [.int x2]) (σ' := σ) [.iload_n 2] (by decide +kernel) hc hT hF wi (by exact rfl) ?_
        exact am_retI (by decide +kernel) hc (by decide) (by decide) (fun h W O => ⟨rfl, W, O⟩)
    · refine am_blk (pc' := 25) (Ls' := [.unset, .val (.int x1), .val (.int x2)]) (St' := [.int (-1 : Int32)]) (σ' := σ) [.iconst (-1)] (by decide +kernel) hc hT hF wi (by exact rfl) ?_
      exact am_retI (by decide +kernel) hc (by decide) (by decide) (fun h W O => ⟨rfl, W, O⟩)
def c_lowestBit (x1 : Int32) (σ : Sg) : Option (Int32 × Sg) :=
  c_lowestBit_2 400 x1 (0 : Int32) σ
set_option maxRecDepth 65536 in
set_option maxHeartbeats 4000000 in
theorem ok_c_lowestBit (hw : WH a0 Z) (x1 : Int32) (σ : Sg) : ∀ x, c_lowestBit x1 σ = some x → Con l Z "ConservativeBiY" fsC (⟨"ConservativeBiY", "lowestBit", "(I)I"⟩ : MethodName) prog_1_method_40_code 3 (some .int) rm_c_lowestBit wC [.ref 0, .int x1] σ (fI x).1 (fI x).2 := by
  refine am_con pnC ?_
  intro p e s m below meth c A n0 h0 hc
  have hT := tabC hw "lowestBit"
  have hF := fsokC hw
  have wi := wiC hw
  unfold c_lowestBit
  refine am_blk (pc' := 2) (Ls' := [.val (.ref 0), .val (.int x1), .val (.int (0 : Int32))]) (St' := []) (σ' := σ) [.iconst 0, .istore_n 2] (by decide +kernel) hc hT hF wi (by exact rfl) ?_
  exact am_wk (Ls' := [.unset, .val (.int x1), .val (.int (0 : Int32))]) (by simp [wkL]) (okc_c_lowestBit_2 hw hc 400 x1 (0 : Int32) σ)
abbrev rm_c_slotMaskFor : Room := { frames := 0, cells := 0, slots := 0, locals := 0 }
def c_slotMaskFor (x1 : Int32) (σ : Sg) : Option (Int32 × Sg) :=
  if x1 < 0 then (some ((0 : Int32), σ)) else (if (4 : Int32) < x1 then (some ((0 : Int32), σ)) else (some (((1 : Int32) <<< (((16 : Int32) >>> (x1 &&& 31)) &&& 31)) - (1 : Int32), σ)))
set_option maxRecDepth 65536 in
set_option maxHeartbeats 4000000 in
theorem ok_c_slotMaskFor (hw : WH a0 Z) (x1 : Int32) (σ : Sg) : ∀ x, c_slotMaskFor x1 σ = some x → Con l Z "ConservativeBiY" fsC (⟨"ConservativeBiY", "slotMaskFor", "(I)I"⟩ : MethodName) prog_1_method_14_code 3 (some .int) rm_c_slotMaskFor wC [.ref 0, .int x1] σ (fI x).1 (fI x).2 := by
  refine am_con pnC ?_
  intro p e s m below meth c A n0 h0 hc
  have hT := tabC hw "slotMaskFor"
  have hF := fsokC hw
  have wi := wiC hw
  unfold c_slotMaskFor
  refine am_blk (pc' := 1) (Ls' := [.val (.ref 0), .val (.int x1), .unset]) (St' := [.int x1]) (σ' := σ) [.iload_n 1] (by decide +kernel) hc hT hF wi (by exact rfl) ?_
  refine am_if_lt (o := 8) (pc1 := 9) (by decide +kernel) hc (fun hq => ?_) (fun hq => ?_)
  · refine am_blk (pc' := 10) (Ls' := [.val (.ref 0), .val (.int x1), .unset]) (St' := [.int (0 : Int32)]) (σ' := σ) [.iconst 0] (by decide +kernel) hc hT hF wi (by exact rfl) ?_
    exact am_retI (by decide +kernel) hc (by decide) (by decide) (fun h W O => ⟨rfl, W, O⟩)
  · refine am_blk (pc' := 6) (Ls' := [.val (.ref 0), .val (.int x1), .unset]) (St' := [.int (4 : Int32), .int x1]) (σ' := σ) [.iload_n 1, .iconst 4] (by decide +kernel) hc hT hF wi (by exact rfl) ?_
    refine am_icmp_le (o := 5) (pc1 := 11) (by decide +kernel) hc (fun hq => ?_) (fun hq => ?_)
    · refine am_blk (pc' := 10) (Ls' := [.val (.ref 0), .val (.int x1), .unset]) (St' := [.int (0 : Int32)]) (σ' := σ) [.iconst 0] (by decide +kernel) hc hT hF wi (by exact rfl) ?_
      exact am_retI (by decide +kernel) hc (by decide) (by decide) (fun h W O => ⟨rfl, W, O⟩)
    · refine am_blk (pc' := 21) (Ls' := [.val (.ref 0), .val (.int x1), .val (.int ((16 : Int32) >>> (x1 &&& 31)))]) (St' := [.int (((1 : Int32) <<< (((16 : Int32) >>> (x1 &&& 31)) &&& 31)) - (1 : Int32))]) (σ' := σ) [.bipush 16, .iload_n 1, .ishr, .istore_n 2, .iconst 1, .iload_n 2, .ishl, .iconst 1, .isub] (by decide +kernel) hc hT hF wi (by exact rfl) ?_
      exact am_retI (by decide +kernel) hc (by decide) (by decide) (fun h W O => ⟨rfl, W, O⟩)
abbrev rm_c_slotStart : Room := { frames := 0, cells := 0, slots := 0, locals := 0 }
def c_slotStart (x1 : Int32) (x2 : Int32) (σ : Sg) : Option (Int32 × Sg) :=
  if inb x1 16 = true then (some (((4096 : Int32) + (x1 <<< ((4 : Int32) &&& 31))) + (x2 <<< ((gi σ 4 (nx x1)) &&& 31)), σ)) else none
set_option maxRecDepth 65536 in
set_option maxHeartbeats 4000000 in
theorem ok_c_slotStart (hw : WH a0 Z) (x1 : Int32) (x2 : Int32) (σ : Sg) : ∀ x, c_slotStart x1 x2 σ = some x → Con l Z "ConservativeBiY" fsC (⟨"ConservativeBiY", "slotStart", "(II)I"⟩ : MethodName) prog_1_method_21_code 3 (some .int) rm_c_slotStart wC [.ref 0, .int x1, .int x2] σ (fI x).1 (fI x).2 := by
  refine am_con pnC ?_
  intro p e s m below meth c A n0 h0 hc
  have hT := tabC hw "slotStart"
  have hF := fsokC hw
  have wi := wiC hw
  unfold c_slotStart
  refine am_blk (pc' := 13) (Ls' := [.val (.ref 0), .val (.int x1), .val (.int x2)]) (St' := [.int x1, .ref 4, .int x2, .int ((4096 : Int32) + (x1 <<< ((4 : Int32) &&& 31)))]) (σ' := σ) [.sipush 4096, .iload_n 1, .iconst 4, .ishl, .iadd, .iload_n 2, .aload_n 0, .getfield 19, .iload_n 1] (by decide +kernel) hc hT hF wi (by exact rfl) ?_
  refine am_iaload (by decide +kernel) hc rfl (fun hb0 => ?_)
  refine am_blk (pc' := 16) (Ls' := [.val (.ref 0), .val (.int x1), .val (.int x2)]) (St' := [.int (((4096 : Int32) + (x1 <<< ((4 : Int32) &&& 31))) + (x2 <<< ((gi σ 4 (nx x1)) &&& 31)))]) (σ' := σ) [.ishl, .iadd] (by decide +kernel) hc hT hF wi (by exact rfl) ?_
  exact am_retI (by decide +kernel) hc (by decide) (by decide) (fun h W O => ⟨rfl, W, O⟩)
abbrev rm_c_clearWords : Room := { frames := 0, cells := 0, slots := 0, locals := 0 }
def c_clearWords_49 (k9 : Int32 → Int32 → Int32 → Sg → Option Sg) (x2 : Int32) (x3 : Int32) (x4 : Int32) (σ : Sg) : Option Sg :=
  k9 x2 x3 (x4 + (1 : Int32)) σ
set_option maxRecDepth 65536 in
set_option maxHeartbeats 4000000 in
theorem okc_c_clearWords_49 (hw : WH a0 Z) (hc : Cx p s m meth c Z "ConservativeBiY" prog_1_method_12_code 6 none "clearWords") (k9 : Int32 → Int32 → Int32 → Sg → Option Sg) (hk9 : ∀ (x2 : Int32) (x3 : Int32) (x4 : Int32) (σ : Sg), OkR p l e rm_c_clearWords s m args below meth c Z "ConservativeBiY" fsC n0 h0 (FM Z "ConservativeBiY" fsC A wC h0 fV) A wC 0 0 9 [.val (.ref 0), .unset, .val (.int x2), .val (.int x3), .val (.int x4), .unset] [] σ (k9 x2 x3 x4 σ)) (x2 : Int32) (x3 : Int32) (x4 : Int32) (σ : Sg) : OkR p l e rm_c_clearWords s m args below meth c Z "ConservativeBiY" fsC n0 h0 (FM Z "ConservativeBiY" fsC A wC h0 fV) A wC 0 0 49 [.val (.ref 0), .unset, .val (.int x2), .val (.int x3), .val (.int x4), .unset] [] σ (c_clearWords_49 k9 x2 x3 x4 σ) := by
  have hT := tabC hw "clearWords"
  have hF := fsokC hw
  have wi := wiC hw
  unfold c_clearWords_49
  refine am_blk (pc' := 9) (Ls' := [.val (.ref 0), .unset, .val (.int x2), .val (.int x3), .val (.int (x4 + (1 : Int32))), .unset]) (St' := []) (σ' := σ) [.iinc 4 1, .goto (-43)] (by decide +kernel) hc hT hF wi (by exact rfl) ?_
  exact am_wk (Ls' := [.val (.ref 0), .unset, .val (.int x2), .val (.int x3), .val (.int (x4 + (1 : Int32))), .unset]) (by simp [wkL]) (hk9 x2 x3 (x4 + (1 : Int32)) σ)
def c_clearWords_9 : Nat → Int32 → Int32 → Int32 → Sg → Option Sg
  | 0, _, _, _, _ => none
  | fuel + 1, x2, x3, x4, σ =>
    if x4 < x2 then (if x4 < (16 : Int32) then (if (x3 + x4) < 0 then (c_clearWords_49 (c_clearWords_9 fuel) x2 x3 x4 σ) else (if (x3 + x4) < (256 : Int32) then (if inb (x3 + x4) 256 = true then (c_clearWords_49 (c_clearWords_9 fuel) x2 x3 x4 (si σ 2 (nx (x3 + x4)) (0 : Int32))) else none) else (c_clearWords_49 (c_clearWords_9 fuel) x2 x3 x4 σ))) else (some σ)) else (some σ)
set_option maxRecDepth 65536 in
set_option maxHeartbeats 4000000 in
theorem okc_c_clearWords_9 (hw : WH a0 Z) (hc : Cx p s m meth c Z "ConservativeBiY" prog_1_method_12_code 6 none "clearWords") : ∀ (fuel : Nat) (x2 : Int32) (x3 : Int32) (x4 : Int32) (σ : Sg), OkR p l e rm_c_clearWords s m args below meth c Z "ConservativeBiY" fsC n0 h0 (FM Z "ConservativeBiY" fsC A wC h0 fV) A wC 0 0 9 [.val (.ref 0), .unset, .val (.int x2), .val (.int x3), .val (.int x4), .unset] [] σ (c_clearWords_9 fuel x2 x3 x4 σ) := by
  have hT := tabC hw "clearWords"
  have hF := fsokC hw
  have wi := wiC hw
  intro fuel
  induction fuel with
  | zero => intro x2 x3 x4 σ; exact am_none rfl
  | succ fuel ih =>
    intro x2 x3 x4 σ
    rw [c_clearWords_9]
    refine am_blk (pc' := 12) (Ls' := [.val (.ref 0), .unset, .val (.int x2), .val (.int x3), .val (.int x4), .unset]) (St' := [.int x2, .int x4]) (σ' := σ) [.iload 4, .iload_n 2] (by decide +kernel) hc hT hF wi (by exact rfl) ?_
    refine am_icmp_ge (o := 43) (pc1 := 55) (by decide +kernel) hc (fun hq => ?_) (fun hq => ?_)
    · refine am_blk (pc' := 19) (Ls' := [.val (.ref 0), .unset, .val (.int x2), .val (.int x3), .val (.int x4), .unset]) (St' := [.int (16 : Int32), .int x4]) (σ' := σ) [.iload 4, .bipush 16] (by decide +kernel) hc hT hF wi (by exact rfl) ?_
      refine am_icmp_ge (o := 36) (pc1 := 55) (by decide +kernel) hc (fun hq => ?_) (fun hq => ?_)
      · refine am_blk (pc' := 30) (Ls' := [.val (.ref 0), .unset, .val (.int x2), .val (.int x3), .val (.int x4), .val (.int (x3 + x4))]) (St' := [.int (x3 + x4)]) (σ' := σ) [.iload_n 3, .iload 4, .iadd, .istore 5, .iload 5] (by decide +kernel) hc hT hF wi (by exact rfl) ?_
        refine am_if_lt (o := 19) (pc1 := 49) (by decide +kernel) hc (fun hq => ?_) (fun hq => ?_)
        · exact am_wk (Ls' := [.val (.ref 0), .unset, .val (.int x2), .val (.int x3), .val (.int x4), .unset]) (by simp [wkL]) (okc_c_clearWords_49 hw hc _ ih x2 x3 x4 σ)
        · refine am_blk (pc' := 38) (Ls' := [.val (.ref 0), .unset, .val (.int x2), .val (.int x3), .val (.int x4), .val (.int (x3 + x4))]) (St' := [.int (256 : Int32), .int (x3 + x4)]) (σ' := σ) [.iload 5, .sipush 256] (by decide +kernel) hc hT hF wi (by exact rfl) ?_
          refine am_icmp_ge (o := 11) (pc1 := 49) (by decide +kernel) hc (fun hq => ?_) (fun hq => ?_)
          · refine am_blk (pc' := 48) (Ls' := [.val (.ref 0), .unset, .val (.int x2), .val (.int x3), .val (.int x4), .val (.int (x3 + x4))]) (St' := [.int (0 : Int32), .int (x3 + x4), .ref 2]) (σ' := σ) [.aload_n 0, .getfield 13, .iload 5, .iconst 0] (by decide +kernel) hc hT hF wi (by exact rfl) ?_
            refine am_iastore (y := (0 : Int32)) rfl (by decide +kernel) hc rfl (fun hb0 => ?_)
            exact am_wk (Ls' := [.val (.ref 0), .unset, .val (.int x2), .val (.int x3), .val (.int x4), .unset]) (by simp [wkL]) (okc_c_clearWords_49 hw hc _ ih x2 x3 x4 (si σ 2 (nx (x3 + x4)) (0 : Int32)))
          · exact am_wk (Ls' := [.val (.ref 0), .unset, .val (.int x2), .val (.int x3), .val (.int x4), .unset]) (by simp [wkL]) (okc_c_clearWords_49 hw hc _ ih x2 x3 x4 σ)
      · exact am_retV (by decide +kernel) hc (by decide) (by decide) (fun h W O => ⟨rfl, W, O⟩)
    · exact am_retV (by decide +kernel) hc (by decide) (by decide) (fun h W O => ⟨rfl, W, O⟩)
def c_clearWords (x1 : Int32) (x2 : Int32) (σ : Sg) : Option Sg :=
  c_clearWords_9 400 x2 (x1 - (4096 : Int32)) (0 : Int32) σ
set_option maxRecDepth 65536 in
set_option maxHeartbeats 4000000 in
theorem ok_c_clearWords (hw : WH a0 Z) (x1 : Int32) (x2 : Int32) (σ : Sg) : ∀ x, c_clearWords x1 x2 σ = some x → Con l Z "ConservativeBiY" fsC (⟨"ConservativeBiY", "clearWords", "(II)V"⟩ : MethodName) prog_1_method_12_code 6 none rm_c_clearWords wC [.ref 0, .int x1, .int x2] σ (fV x).1 (fV x).2 := by
  refine am_con pnC ?_
  intro p e s m below meth c A n0 h0 hc
  have hT := tabC hw "clearWords"
  have hF := fsokC hw
  have wi := wiC hw
  unfold c_clearWords
  refine am_blk (pc' := 9) (Ls' := [.val (.ref 0), .val (.int x1), .val (.int x2), .val (.int (x1 - (4096 : Int32))), .val (.int (0 : Int32)), .unset]) (St' := []) (σ' := σ) [.iload_n 1, .sipush 4096, .isub, .istore_n 3, .iconst 0, .istore 4] (by decide +kernel) hc hT hF wi (by exact rfl) ?_
  exact am_wk (Ls' := [.val (.ref 0), .unset, .val (.int x2), .val (.int (x1 - (4096 : Int32))), .val (.int (0 : Int32)), .unset]) (by simp [wkL]) (okc_c_clearWords_9 hw hc 400 x2 (x1 - (4096 : Int32)) (0 : Int32) σ)
abbrev rm_c_refreshPage : Room := { frames := 1, cells := 0, slots := 0, locals := 14 }
def c_refreshPage_17 : Nat → Int32 → Int32 → Int32 → Sg → Option Sg
  | 0, _, _, _, _ => none
  | fuel + 1, x1, x2, x3, σ =>
    if x3 < (5 : Int32) then (if inb x3 5 = true then (c_refreshPage_17 fuel x1 x2 (x3 + (1 : Int32)) (si σ 8 (nx x3) ((gi σ 8 (nx x3)) &&& (x2 ^^^ (-1 : Int32))))) else none) else (if x1 < (gi σ 0 10) then (if inb x1 16 = true then (if (gi σ 3 (nx x1)) = 0 then (some (si (si σ 0 13 ((gi σ 0 13) &&& (x2 ^^^ (-1 : Int32)))) 0 13 (((gi σ 0 13) &&& (x2 ^^^ (-1 : Int32))) ||| x2))) else (if (gi σ 4 (nx x1)) < 0 then (some (si σ 0 13 ((gi σ 0 13) &&& (x2 ^^^ (-1 : Int32))))) else (if (4 : Int32) < (gi σ 4 (nx x1)) then (some (si σ 0 13 ((gi σ 0 13) &&& (x2 ^^^ (-1 : Int32))))) else ((c_slotMaskFor (gi σ 4 (nx x1)) (si σ 0 13 ((gi σ 0 13) &&& (x2 ^^^ (-1 : Int32))))).bind fun r1 => if ((gi r1.2 5 (nx x1)) &&& r1.1) = r1.1 then (some r1.2) else (if inb (gi σ 4 (nx x1)) 5 = true then (some (si r1.2 8 (nx (gi σ 4 (nx x1))) ((gi r1.2 8 (nx (gi σ 4 (nx x1)))) ||| x2))) else none))))) else none) else (some (si σ 0 13 ((gi σ 0 13) &&& (x2 ^^^ (-1 : Int32))))))
set_option maxRecDepth 65536 in
set_option maxHeartbeats 4000000 in
theorem okc_c_refreshPage_17 (hw : WH a0 Z) (hc : Cx p s m meth c Z "ConservativeBiY" prog_1_method_16_code 5 none "refreshPage") : ∀ (fuel : Nat) (x1 : Int32) (x2 : Int32) (x3 : Int32) (σ : Sg), OkR p l e rm_c_refreshPage s m args below meth c Z "ConservativeBiY" fsC n0 h0 (FM Z "ConservativeBiY" fsC A wC h0 fV) A wC 0 0 17 [.val (.ref 0), .val (.int x1), .val (.int x2), .val (.int x3), .unset] [] σ (c_refreshPage_17 fuel x1 x2 x3 σ) := by
  have hT := tabC hw "refreshPage"
  have hF := fsokC hw
  have wi := wiC hw
  intro fuel
  induction fuel with
  | zero => intro x1 x2 x3 σ; exact am_none rfl
  | succ fuel ih =>
    intro x1 x2 x3 σ
    rw [c_refreshPage_17]
    refine am_blk (pc' := 19) (Ls' := [.val (.ref 0), .val (.int x1), .val (.int x2), .val (.int x3), .unset]) (St' := [.int (5 : Int32), .int x3]) (σ' := σ) [.iload_n 3, .iconst 5] (by decide +kernel) hc hT hF wi (by exact rfl) ?_
    refine am_icmp_ge (o := 25) (pc1 := 44) (by decide +kernel) hc (fun hq => ?_) (fun hq => ?_)
    · refine am_blk (pc' := 32) (Ls' := [.val (.ref 0), .val (.int x1), .val (.int x2), .val (.int x3), .unset]) (St' := [.int x3, .ref 8, .int x3, .ref 8]) (σ' := σ) [.aload_n 0, .getfield 32, .iload_n 3, .aload_n 0, .getfield 32, .iload_n 3] (by decide +kernel) hc hT hF wi (by exact rfl) ?_
      refine am_iaload (by decide +kernel) hc rfl (fun hb0 => ?_)
      refine am_blk (pc' := 37) (Ls' := [.val (.ref 0), .val (.int x1), .val (.int x2), .val (.int x3), .unset]) (St' := [.int ((gi σ 8 (nx x3)) &&& (x2 ^^^ (-1 : Int32))), .int x3, .ref 8]) (σ' := σ) [.iload_n 2, .iconst (-1), .ixor, .iand] (by decide +kernel) hc hT hF wi (by exact rfl) ?_
      refine am_iastore_k hb0 (y := ((gi σ 8 (nx x3)) &&& (x2 ^^^ (-1 : Int32)))) rfl (by decide +kernel) hc rfl ?_
      refine am_blk (pc' := 17) (Ls' := [.val (.ref 0), .val (.int x1), .val (.int x2), .val (.int (x3 + (1 : Int32))), .unset]) (St' := []) (σ' := si σ 8 (nx x3) ((gi σ 8 (nx x3)) &&& (x2 ^^^ (-1 : Int32)))) [.iinc 3 1, .goto (-24)] (by decide +kernel) hc hT hF wi (by exact rfl) ?_
      exact am_wk (Ls' := [.val (.ref 0), .val (.int x1), .val (.int x2), .val (.int (x3 + (1 : Int32))), .unset]) (by simp [wkL]) (ih x1 x2 (x3 + (1 : Int32)) (si σ 8 (nx x3) ((gi σ 8 (nx x3)) &&& (x2 ^^^ (-1 : Int32)))))
    · refine am_blk (pc' := 61) (Ls' := [.val (.ref 0), .val (.int x1), .val (.int x2), .val (.int x3), .unset]) (St' := [.int (gi σ 0 10), .int x1]) (σ' := si σ 0 13 ((gi σ 0 13) &&& (x2 ^^^ (-1 : Int32)))) [.aload_n 0, .aload_n 0, .getfield 55, .iload_n 2, .iconst (-1), .ixor, .iand, .putfield 55, .iload_n 1, .aload_n 0, .getfield 41] (by decide +kernel) hc hT hF wi (by exact rfl) ?_
      refine am_icmp_lt (o := 4) (pc1 := 65) (by decide +kernel) hc (fun hq => ?_) (fun hq => ?_)
      · refine am_blk (pc' := 70) (Ls' := [.val (.ref 0), .val (.int x1), .val (.int x2), .val (.int x3), .unset]) (St' := [.int x1, .ref 3]) (σ' := si σ 0 13 ((gi σ 0 13) &&& (x2 ^^^ (-1 : Int32)))) [.aload_n 0, .getfield 16, .iload_n 1] (by decide +kernel) hc hT hF wi (by exact rfl) ?_
        refine am_iaload (by decide +kernel) hc rfl (fun hb0 => ?_)
        refine am_if_ne (o := 14) (pc1 := 85) (by decide +kernel) hc (fun hq => ?_) (fun hq => ?_)
        · refine am_blk (pc' := 84) (Ls' := [.val (.ref 0), .val (.int x1), .val (.int x2), .val (.int x3), .unset]) (St' := []) (σ' := si (si σ 0 13 ((gi σ 0 13) &&& (x2 ^^^ (-1 : Int32)))) 0 13 (((gi σ 0 13) &&& (x2 ^^^ (-1 : Int32))) ||| x2)) [.aload_n 0, .aload_n 0, .getfield 55, .iload_n 2, .ior, .putfield 55] (by decide +kernel) hc hT hF wi (by exact rfl) ?_
          exact am_retV (by decide +kernel) hc (by decide) (by decide) (fun h W O => ⟨rfl, W, O⟩)
        · refine am_blk (pc' := 90) (Ls' := [.val (.ref 0), .val (.int x1), .val (.int x2), .val (.int x3), .unset]) (St' := [.int x1, .ref 4]) (σ' := si σ 0 13 ((gi σ 0 13) &&& (x2 ^^^ (-1 : Int32)))) [.aload_n 0, .getfield 19, .iload_n 1] (by decide +kernel) hc hT hF wi (by exact rfl) ?_
          refine am_iaload_k hb0 (by decide +kernel) hc rfl ?_
          refine am_blk (pc' := 93) (Ls' := [.val (.ref 0), .val (.int x1), .val (.int x2), .val (.int (gi σ 4 (nx x1))), .unset]) (St' := [.int (gi σ 4 (nx x1))]) (σ' := si σ 0 13 ((gi σ 0 13) &&& (x2 ^^^ (-1 : Int32)))) [.istore_n 3, .iload_n 3] (by decide +kernel) hc hT hF wi (by exact rfl) ?_
          refine am_if_lt (o := 8) (pc1 := 101) (by decide +kernel) hc (fun hq => ?_) (fun hq => ?_)
          · exact am_retV (by decide +kernel) hc (by decide) (by decide) (fun h W O => ⟨rfl, W, O⟩)
          · refine am_blk (pc' := 98) (Ls' := [.val (.ref 0), .val (.int x1), .val (.int x2), .val (.int (gi σ 4 (nx x1))), .unset]) (St' := [.int (4 : Int32), .int (gi σ 4 (nx x1))]) (σ' := si σ 0 13 ((gi σ 0 13) &&& (x2 ^^^ (-1 : Int32)))) [.iload_n 3, .iconst 4] (by decide +kernel) hc hT hF wi (by exact rfl) ?_
            refine am_icmp_le (o := 4) (pc1 := 102) (by decide +kernel) hc (fun hq => ?_) (fun hq => ?_)
            · exact am_retV (by decide +kernel) hc (by decide) (by decide) (fun h W O => ⟨rfl, W, O⟩)
            · refine am_blk (pc' := 104) (Ls' := [.val (.ref 0), .val (.int x1), .val (.int x2), .val (.int (gi σ 4 (nx x1))), .unset]) (St' := [.int (gi σ 4 (nx x1)), .ref 0]) (σ' := si σ 0 13 ((gi σ 0 13) &&& (x2 ^^^ (-1 : Int32)))) [.aload_n 0, .iload_n 3] (by decide +kernel) hc hT hF wi (by exact rfl) ?_
              refine am_callP_I (W0 := 0) (argsL := [.int (gi σ 4 (nx x1))]) (rest := []) rfl (lk_C_81 hw) rfl wi (by decide +kernel) hc (SubW.refl _) rfl (by show arity "(I)I" 1 = true; decide +kernel) (ok_c_slotMaskFor hw (gi σ 4 (nx x1)) _) rfl ⟨by decide, by decide, Nat.le_of_eq rfl, rfl, rfl, by decide, by decide⟩ (fun r1 hr => ?_)
              refine am_blk (pc' := 114) (Ls' := [.val (.ref 0), .val (.int x1), .val (.int x2), .val (.int (gi σ 4 (nx x1))), .val (.int r1.1)]) (St' := [.int x1, .ref 5]) (σ' := r1.2) [.istore 4, .aload_n 0, .getfield 22, .iload_n 1] (by decide +kernel) hc hT hF wi (by exact rfl) ?_
              refine am_iaload_k hb0 (by decide +kernel) hc rfl ?_
              refine am_blk (pc' := 120) (Ls' := [.val (.ref 0), .val (.int x1), .val (.int x2), .val (.int (gi σ 4 (nx x1))), .val (.int r1.1)]) (St' := [.int r1.1, .int ((gi r1.2 5 (nx x1)) &&& r1.1)]) (σ' := r1.2) [.iload 4, .iand, .iload 4] (by decide +kernel) hc hT hF wi (by exact rfl) ?_
              refine am_icmp_eq (o := 17) (pc1 := 137) (by decide +kernel) hc (fun hq => ?_) (fun hq => ?_)
              · exact am_retV (by decide +kernel) hc (by decide) (by decide) (fun h W O => ⟨rfl, W, O⟩)
              · refine am_blk (pc' := 133) (Ls' := [.val (.ref 0), .val (.int x1), .val (.int x2), .val (.int (gi σ 4 (nx x1))), .val (.int r1.1)]) (St' := [.int (gi σ 4 (nx x1)), .ref 8, .int (gi σ 4 (nx x1)), .ref 8]) (σ' := r1.2) [.aload_n 0, .getfield 32, .iload_n 3, .aload_n 0, .getfield 32, .iload_n 3] (by decide +kernel) hc hT hF wi (by exact rfl) ?_
                refine am_iaload (by decide +kernel) hc rfl (fun hb1 => ?_)
                refine am_blk (pc' := 136) (Ls' := [.val (.ref 0), .val (.int x1), .val (.int x2), .val (.int (gi σ 4 (nx x1))), .val (.int r1.1)]) (St' := [.int ((gi r1.2 8 (nx (gi σ 4 (nx x1)))) ||| x2), .int (gi σ 4 (nx x1)), .ref 8]) (σ' := r1.2) [.iload_n 2, .ior] (by decide +kernel) hc hT hF wi (by exact rfl) ?_
                refine am_iastore_k hb1 (y := ((gi r1.2 8 (nx (gi σ 4 (nx x1)))) ||| x2)) rfl (by decide +kernel) hc rfl ?_
                exact am_retV (by decide +kernel) hc (by decide) (by decide) (fun h W O => ⟨rfl, W, O⟩)
      · exact am_retV (by decide +kernel) hc (by decide) (by decide) (fun h W O => ⟨rfl, W, O⟩)
def c_refreshPage (x1 : Int32) (σ : Sg) : Option Sg :=
  if x1 < 0 then (some σ) else (if x1 < (16 : Int32) then (c_refreshPage_17 400 x1 ((1 : Int32) <<< (x1 &&& 31)) (0 : Int32) σ) else (some σ))
set_option maxRecDepth 65536 in
set_option maxHeartbeats 4000000 in
theorem ok_c_refreshPage (hw : WH a0 Z) (x1 : Int32) (σ : Sg) : ∀ x, c_refreshPage x1 σ = some x → Con l Z "ConservativeBiY" fsC (⟨"ConservativeBiY", "refreshPage", "(I)V"⟩ : MethodName) prog_1_method_16_code 5 none rm_c_refreshPage wC [.ref 0, .int x1] σ (fV x).1 (fV x).2 := by
  refine am_con pnC ?_
  intro p e s m below meth c A n0 h0 hc
  have hT := tabC hw "refreshPage"
  have hF := fsokC hw
  have wi := wiC hw
  unfold c_refreshPage
  refine am_blk (pc' := 1) (Ls' := [.val (.ref 0), .val (.int x1), .unset, .unset, .unset]) (St' := [.int x1]) (σ' := σ) [.iload_n 1] (by decide +kernel) hc hT hF wi (by exact rfl) ?_
  refine am_if_lt (o := 9) (pc1 := 10) (by decide +kernel) hc (fun hq => ?_) (fun hq => ?_)
  · exact am_retV (by decide +kernel) hc (by decide) (by decide) (fun h W O => ⟨rfl, W, O⟩)
  · refine am_blk (pc' := 7) (Ls' := [.val (.ref 0), .val (.int x1), .unset, .unset, .unset]) (St' := [.int (16 : Int32), .int x1]) (σ' := σ) [.iload_n 1, .bipush 16] (by decide +kernel) hc hT hF wi (by exact rfl) ?_
    refine am_icmp_lt (o := 4) (pc1 := 11) (by decide +kernel) hc (fun hq => ?_) (fun hq => ?_)
    · refine am_blk (pc' := 17) (Ls' := [.val (.ref 0), .val (.int x1), .val (.int ((1 : Int32) <<< (x1 &&& 31))), .val (.int (0 : Int32)), .unset]) (St' := []) (σ' := σ) [.iconst 1, .iload_n 1, .ishl, .istore_n 2, .iconst 0, .istore_n 3] (by decide +kernel) hc hT hF wi (by exact rfl) ?_
      exact am_wk (Ls' := [.val (.ref 0), .val (.int x1), .val (.int ((1 : Int32) <<< (x1 &&& 31))), .val (.int (0 : Int32)), .unset]) (by simp [wkL]) (okc_c_refreshPage_17 hw hc 400 x1 ((1 : Int32) <<< (x1 &&& 31)) (0 : Int32) σ)
    · exact am_retV (by decide +kernel) hc (by decide) (by decide) (fun h W O => ⟨rfl, W, O⟩)
abbrev rm_c_placeObject : Room := { frames := 2, cells := 0, slots := 0, locals := 30 }
def c_placeObject (x1 : Int32) (x2 : Int32) (σ : Sg) : Option (Int32 × Sg) :=
  if inb x1 16 = true then ((c_slotStart x1 x2 (si (si (si σ 5 (nx x1) ((gi σ 5 (nx x1)) ||| ((1 : Int32) <<< (x2 &&& 31)))) 6 (nx x1) ((gi σ 6 (nx x1)) + (1 : Int32))) 0 15 ((gi σ 0 15) + (1 : Int32)))).bind fun r1 => (c_clearWords r1.1 (gi r1.2 3 (nx x1)) r1.2).bind fun r2 => (c_refreshPage x1 r2).bind fun r3 => some (r1.1, r3)) else none
set_option maxRecDepth 65536 in
set_option maxHeartbeats 4000000 in
theorem ok_c_placeObject (hw : WH a0 Z) (x1 : Int32) (x2 : Int32) (σ : Sg) : ∀ x, c_placeObject x1 x2 σ = some x → Con l Z "ConservativeBiY" fsC (⟨"ConservativeBiY", "placeObject", "(II)I"⟩ : MethodName) prog_1_method_11_code 5 (some .int) rm_c_placeObject wC [.ref 0, .int x1, .int x2] σ (fI x).1 (fI x).2 := by
  refine am_con pnC ?_
  intro p e s m below meth c A n0 h0 hc
  have hT := tabC hw "placeObject"
  have hF := fsokC hw
  have wi := wiC hw
  unfold c_placeObject
  refine am_blk (pc' := 14) (Ls' := [.val (.ref 0), .val (.int x1), .val (.int x2), .val (.int ((1 : Int32) <<< (x2 &&& 31))), .unset]) (St' := [.int x1, .ref 5, .int x1, .ref 5]) (σ' := σ) [.iconst 1, .iload_n 2, .ishl, .istore_n 3, .aload_n 0, .getfield 22, .iload_n 1, .aload_n 0, .getfield 22, .iload_n 1] (by decide +kernel) hc hT hF wi (by exact rfl) ?_
  refine am_iaload (by decide +kernel) hc rfl (fun hb0 => ?_)
  refine am_blk (pc' := 17) (Ls' := [.val (.ref 0), .val (.int x1), .val (.int x2), .val (.int ((1 : Int32) <<< (x2 &&& 31))), .unset]) (St' := [.int ((gi σ 5 (nx x1)) ||| ((1 : Int32) <<< (x2 &&& 31))), .int x1, .ref 5]) (σ' := σ) [.iload_n 3, .ior] (by decide +kernel) hc hT hF wi (by exact rfl) ?_
  refine am_iastore_k hb0 (y := ((gi σ 5 (nx x1)) ||| ((1 : Int32) <<< (x2 &&& 31)))) rfl (by decide +kernel) hc rfl ?_
  refine am_blk (pc' := 28) (Ls' := [.val (.ref 0), .val (.int x1), .val (.int x2), .val (.int ((1 : Int32) <<< (x2 &&& 31))), .unset]) (St' := [.int x1, .ref 6, .int x1, .ref 6]) (σ' := si σ 5 (nx x1) ((gi σ 5 (nx x1)) ||| ((1 : Int32) <<< (x2 &&& 31)))) [.aload_n 0, .getfield 25, .iload_n 1, .aload_n 0, .getfield 25, .iload_n 1] (by decide +kernel) hc hT hF wi (by exact rfl) ?_
  refine am_iaload_k hb0 (by decide +kernel) hc rfl ?_
  refine am_blk (pc' := 31) (Ls' := [.val (.ref 0), .val (.int x1), .val (.int x2), .val (.int ((1 : Int32) <<< (x2 &&& 31))), .unset]) (St' := [.int ((gi σ 6 (nx x1)) + (1 : Int32)), .int x1, .ref 6]) (σ' := si σ 5 (nx x1) ((gi σ 5 (nx x1)) ||| ((1 : Int32) <<< (x2 &&& 31)))) [.iconst 1, .iadd] (by decide +kernel) hc hT hF wi (by exact rfl) ?_
  refine am_iastore_k hb0 (y := ((gi σ 6 (nx x1)) + (1 : Int32))) rfl (by decide +kernel) hc rfl ?_
  refine am_blk (pc' := 45) (Ls' := [.val (.ref 0), .val (.int x1), .val (.int x2), .val (.int ((1 : Int32) <<< (x2 &&& 31))), .unset]) (St' := [.int x2, .int x1, .ref 0]) (σ' := si (si (si σ 5 (nx x1) ((gi σ 5 (nx x1)) ||| ((1 : Int32) <<< (x2 &&& 31)))) 6 (nx x1) ((gi σ 6 (nx x1)) + (1 : Int32))) 0 15 ((gi σ 0 15) + (1 : Int32))) [.aload_n 0, .aload_n 0, .getfield 61, .iconst 1, .iadd, .putfield 61, .aload_n 0, .iload_n 1, .iload_n 2] (by decide +kernel) hc hT hF wi (by exact rfl) ?_
  refine am_callP_I (W0 := 0) (argsL := [.int x1, .int x2]) (rest := []) rfl (lk_C_88 hw) rfl wi (by decide +kernel) hc (SubW.refl _) rfl (by show arity "(II)I" 2 = true; decide +kernel) (ok_c_slotStart hw x1 x2 _) rfl ⟨by decide, by decide, Nat.le_of_eq rfl, rfl, rfl, by decide, by decide⟩ (fun r1 hr => ?_)
  refine am_blk (pc' := 58) (Ls' := [.val (.ref 0), .val (.int x1), .val (.int x2), .val (.int ((1 : Int32) <<< (x2 &&& 31))), .val (.int r1.1)]) (St' := [.int x1, .ref 3, .int r1.1, .ref 0]) (σ' := r1.2) [.istore 4, .aload_n 0, .iload 4, .aload_n 0, .getfield 16, .iload_n 1] (by decide +kernel) hc hT hF wi (by exact rfl) ?_
  refine am_iaload_k hb0 (by decide +kernel) hc rfl ?_
  refine am_callP_V (W0 := 0) (argsL := [.int r1.1, .int (gi r1.2 3 (nx x1))]) (rest := []) rfl (lk_C_91 hw) rfl wi (by decide +kernel) hc (SubW.refl _) rfl (by show arity "(II)V" 2 = true; decide +kernel) (ok_c_clearWords hw r1.1 (gi r1.2 3 (nx x1)) _) rfl ⟨by decide, by decide, Nat.le_of_eq rfl, rfl, rfl, by decide, by decide⟩ (fun r2 hr => ?_)
  refine am_blk (pc' := 64) (Ls' := [.val (.ref 0), .val (.int x1), .val (.int x2), .val (.int ((1 : Int32) <<< (x2 &&& 31))), .val (.int r1.1)]) (St' := [.int x1, .ref 0]) (σ' := r2) [.aload_n 0, .iload_n 1] (by decide +kernel) hc hT hF wi (by exact rfl) ?_
  refine am_callP_V (W0 := 0) (argsL := [.int x1]) (rest := []) rfl (lk_C_95 hw) rfl wi (by decide +kernel) hc (SubW.refl _) rfl (by show arity "(I)V" 1 = true; decide +kernel) (ok_c_refreshPage hw x1 _) rfl ⟨by decide, by decide, Nat.le_of_eq rfl, rfl, rfl, by decide, by decide⟩ (fun r3 hr => ?_)
  refine am_blk (pc' := 69) (Ls' := [.val (.ref 0), .val (.int x1), .val (.int x2), .val (.int ((1 : Int32) <<< (x2 &&& 31))), .val (.int r1.1)]) (St' := [.int r1.1]) (σ' := r3) [.iload 4] (by decide +kernel) hc hT hF wi (by exact rfl) ?_
  exact am_retI (by decide +kernel) hc (by decide) (by decide) (fun h W O => ⟨rfl, W, O⟩)
abbrev rm_c_allocInClassPage : Room := { frames := 3, cells := 0, slots := 0, locals := 46 }
def c_allocInClassPage (x1 : Int32) (σ : Sg) : Option (Int32 × Sg) :=
  if x1 < 0 then (some ((0 : Int32), σ)) else (if (4 : Int32) < x1 then (some ((0 : Int32), σ)) else (if inb x1 5 = true then ((c_lowestBit (gi σ 8 (nx x1)) σ).bind fun r1 => if r1.1 < 0 then (some ((0 : Int32), r1.2)) else (if r1.1 < (gi r1.2 0 10) then ((c_slotMaskFor x1 r1.2).bind fun r2 => if inb r1.1 16 = true then ((c_lowestBit (((gi r2.2 5 (nx r1.1)) ^^^ (-1 : Int32)) &&& r2.1) r2.2).bind fun r3 => if r3.1 < 0 then (some ((0 : Int32), r3.2)) else ((c_placeObject r1.1 r3.1 r3.2).bind fun r4 => some (r4.1, r4.2))) else none) else (some ((0 : Int32), r1.2)))) else none))
set_option maxRecDepth 65536 in
set_option maxHeartbeats 4000000 in
theorem ok_c_allocInClassPage (hw : WH a0 Z) (x1 : Int32) (σ : Sg) : ∀ x, c_allocInClassPage x1 σ = some x → Con l Z "ConservativeBiY" fsC (⟨"ConservativeBiY", "allocInClassPage", "(I)I"⟩ : MethodName) prog_1_method_9_code 6 (some .int) rm_c_allocInClassPage wC [.ref 0, .int x1] σ (fI x).1 (fI x).2 := by
  refine am_con pnC ?_
  intro p e s m below meth c A n0 h0 hc
  have hT := tabC hw "allocInClassPage"
  have hF := fsokC hw
  have wi := wiC hw
  unfold c_allocInClassPage
  refine am_blk (pc' := 1) (Ls' := [.val (.ref 0), .val (.int x1), .unset, .unset, .unset, .unset]) (St' := [.int x1]) (σ' := σ) [.iload_n 1] (by decide +kernel) hc hT hF wi (by exact rfl) ?_
  refine am_if_lt (o := 8) (pc1 := 9) (by decide +kernel) hc (fun hq => ?_) (fun hq => ?_)
  · refine am_blk (pc' := 10) (Ls' := [.val (.ref 0), .val (.int x1), .unset, .unset, .unset, .unset]) (St' := [.int (0 : Int32)]) (σ' := σ) [.iconst 0] (by decide +kernel) hc hT hF wi (by exact rfl) ?_
    exact am_retI (by decide +kernel) hc (by decide) (by decide) (fun h W O => ⟨rfl, W, O⟩)
  · refine am_blk (pc' := 6) (Ls' := [.val (.ref 0), .val (.int x1), .unset, .unset, .unset, .unset]) (St' := [.int (4 : Int32), .int x1]) (σ' := σ) [.iload_n 1, .iconst 4] (by decide +kernel) hc hT hF wi (by exact rfl) ?_
    refine am_icmp_le (o := 5) (pc1 := 11) (by decide +kernel) hc (fun hq => ?_) (fun hq => ?_)
    · refine am_blk (pc' := 10) (Ls' := [.val (.ref 0), .val (.int x1), .unset, .unset, .unset, .unset]) (St' := [.int (0 : Int32)]) (σ' := σ) [.iconst 0] (by decide +kernel) hc hT hF wi (by exact rfl) ?_
      exact am_retI (by decide +kernel) hc (by decide) (by decide) (fun h W O => ⟨rfl, W, O⟩)
    · refine am_blk (pc' := 17) (Ls' := [.val (.ref 0), .val (.int x1), .unset, .unset, .unset, .unset]) (St' := [.int x1, .ref 8, .ref 0]) (σ' := σ) [.aload_n 0, .aload_n 0, .getfield 32, .iload_n 1] (by decide +kernel) hc hT hF wi (by exact rfl) ?_
      refine am_iaload (by decide +kernel) hc rfl (fun hb0 => ?_)
      refine am_callP_I (W0 := 0) (argsL := [.int (gi σ 8 (nx x1))]) (rest := []) rfl (lk_C_78 hw) rfl wi (by decide +kernel) hc (SubW.refl _) rfl (by show arity "(I)I" 1 = true; decide +kernel) (ok_c_lowestBit hw (gi σ 8 (nx x1)) _) rfl ⟨by decide, by decide, Nat.le_of_eq rfl, rfl, rfl, by decide, by decide⟩ (fun r1 hr => ?_)
      refine am_blk (pc' := 23) (Ls' := [.val (.ref 0), .val (.int x1), .val (.int r1.1), .unset, .unset, .unset]) (St' := [.int r1.1]) (σ' := r1.2) [.istore_n 2, .iload_n 2] (by decide +kernel) hc hT hF wi (by exact rfl) ?_
      refine am_if_lt (o := 11) (pc1 := 34) (by decide +kernel) hc (fun hq => ?_) (fun hq => ?_)
      · refine am_blk (pc' := 35) (Ls' := [.val (.ref 0), .val (.int x1), .val (.int r1.1), .unset, .unset, .unset]) (St' := [.int (0 : Int32)]) (σ' := r1.2) [.iconst 0] (by decide +kernel) hc hT hF wi (by exact rfl) ?_
        exact am_retI (by decide +kernel) hc (by decide) (by decide) (fun h W O => ⟨rfl, W, O⟩)
      · refine am_blk (pc' := 31) (Ls' := [.val (.ref 0), .val (.int x1), .val (.int r1.1), .unset, .unset, .unset]) (St' := [.int (gi r1.2 0 10), .int r1.1]) (σ' := r1.2) [.iload_n 2, .aload_n 0, .getfield 41] (by decide +kernel) hc hT hF wi (by exact rfl) ?_
        refine am_icmp_lt (o := 5) (pc1 := 36) (by decide +kernel) hc (fun hq => ?_) (fun hq => ?_)
        · refine am_blk (pc' := 38) (Ls' := [.val (.ref 0), .val (.int x1), .val (.int r1.1), .unset, .unset, .unset]) (St' := [.int x1, .ref 0]) (σ' := r1.2) [.aload_n 0, .iload_n 1] (by decide +kernel) hc hT hF wi (by exact rfl) ?_
          refine am_callP_I (W0 := 0) (argsL := [.int x1]) (rest := []) rfl (lk_C_81 hw) rfl wi (by decide +kernel) hc (SubW.refl _) rfl (by show arity "(I)I" 1 = true; decide +kernel) (ok_c_slotMaskFor hw x1 _) rfl ⟨by decide, by decide, Nat.le_of_eq rfl, rfl, rfl, by decide, by decide⟩ (fun r2 hr => ?_)
          refine am_blk (pc' := 47) (Ls' := [.val (.ref 0), .val (.int x1), .val (.int r1.1), .val (.int r2.1), .unset, .unset]) (St' := [.int r1.1, .ref 5]) (σ' := r2.2) [.istore_n 3, .aload_n 0, .getfield 22, .iload_n 2] (by decide +kernel) hc hT hF wi (by exact rfl) ?_
          refine am_iaload (by decide +kernel) hc rfl (fun hb1 => ?_)
          refine am_blk (pc' := 57) (Ls' := [.val (.ref 0), .val (.int x1), .val (.int r1.1), .val (.int r2.1), .val (.int (((gi r2.2 5 (nx r1.1)) ^^^ (-1 : Int32)) &&& r2.1)), .unset]) (St' := [.int (((gi r2.2 5 (nx r1.1)) ^^^ (-1 : Int32)) &&& r2.1), .ref 0]) (σ' := r2.2) [.iconst (-1), .ixor, .iload_n 3, .iand, .istore 4, .aload_n 0, .iload 4] (by decide +kernel) hc hT hF wi (by exact rfl) ?_
          refine am_callP_I (W0 := 0) (argsL := [.int (((gi r2.2 5 (nx r1.1)) ^^^ (-1 : Int32)) &&& r2.1)]) (rest := []) rfl (lk_C_78 hw) rfl wi (by decide +kernel) hc (SubW.refl _) rfl (by show arity "(I)I" 1 = true; decide +kernel) (ok_c_lowestBit hw (((gi r2.2 5 (nx r1.1)) ^^^ (-1 : Int32)) &&& r2.1) _) rfl ⟨by decide, by decide, Nat.le_of_eq rfl, rfl, rfl, by decide, by decide⟩ (fun r3 hr => ?_)
          refine am_blk (pc' := 64) (Ls' := [.val (.ref 0), .val (.int x1), .val (.int r1.1), .val (.int r2.1), .val (.int (((gi r2.2 5 (nx r1.1)) ^^^ (-1 : Int32)) &&& r2.1)), .val (.int r3.1)]) (St' := [.int r3.1]) (σ' := r3.2) [.istore 5, .iload 5] (by decide +kernel) hc hT hF wi (by exact rfl) ?_
          refine am_if_ge (o := 5) (pc1 := 69) (by decide +kernel) hc (fun hq => ?_) (fun hq => ?_)
          · refine am_blk (pc' := 68) (Ls' := [.val (.ref 0), .val (.int x1), .val (.int r1.1), .val (.int r2.1), .val (.int (((gi r2.2 5 (nx r1.1)) ^^^ (-1 : Int32)) &&& r2.1)), .val (.int r3.1)]) (St' := [.int (0 : Int32)]) (σ' := r3.2) [.iconst 0] (by decide +kernel) hc hT hF wi (by exact rfl) ?_
            exact am_retI (by decide +kernel) hc (by decide) (by decide) (fun h W O => ⟨rfl, W, O⟩)
          · refine am_blk (pc' := 73) (Ls' := [.val (.ref 0), .val (.int x1), .val (.int r1.1), .val (.int r2.1), .val (.int (((gi r2.2 5 (nx r1.1)) ^^^ (-1 : Int32)) &&& r2.1)), .val (.int r3.1)]) (St' := [.int r3.1, .int r1.1, .ref 0]) (σ' := r3.2) [.aload_n 0, .iload_n 2, .iload 5] (by decide +kernel) hc hT hF wi (by exact rfl) ?_
            refine am_callP_I (W0 := 0) (argsL := [.int r1.1, .int r3.1]) (rest := []) rfl (lk_C_84 hw) rfl wi (by decide +kernel) hc (SubW.refl _) rfl (by show arity "(II)I" 2 = true; decide +kernel) (ok_c_placeObject hw r1.1 r3.1 _) rfl ⟨by decide, by decide, Nat.le_of_eq rfl, rfl, rfl, by decide, by decide⟩ (fun r4 hr => ?_)
            exact am_retI (by decide +kernel) hc (by decide) (by decide) (fun h W O => ⟨rfl, W, O⟩)
        · refine am_blk (pc' := 35) (Ls' := [.val (.ref 0), .val (.int x1), .val (.int r1.1), .unset, .unset, .unset]) (St' := [.int (0 : Int32)]) (σ' := r1.2) [.iconst 0] (by decide +kernel) hc hT hF wi (by exact rfl) ?_
          exact am_retI (by decide +kernel) hc (by decide) (by decide) (fun h W O => ⟨rfl, W, O⟩)
abbrev rm_c_allocInFreshPage : Room := { frames := 3, cells := 0, slots := 0, locals := 46 }
def c_allocInFreshPage (x1 : Int32) (σ : Sg) : Option (Int32 × Sg) :=
  if x1 < 0 then (some ((0 : Int32), σ)) else (if (4 : Int32) < x1 then (some ((0 : Int32), σ)) else ((c_validPageMask σ).bind fun r1 => (c_lowestBit (((gi σ 0 13) &&& ((gi σ 0 14) ^^^ (-1 : Int32))) &&& r1.1) r1.2).bind fun r2 => if r2.1 < 0 then (some ((0 : Int32), r2.2)) else (if r2.1 < (gi r2.2 0 10) then (if inb r2.1 16 = true then ((c_placeObject r2.1 (0 : Int32) (si (si (si (si r2.2 3 (nx r2.1) ((1 : Int32) <<< (x1 &&& 31))) 4 (nx r2.1) x1) 5 (nx r2.1) (0 : Int32)) 6 (nx r2.1) (0 : Int32))).bind fun r3 => some (r3.1, r3.2)) else none) else (some ((0 : Int32), r2.2)))))
set_option maxRecDepth 65536 in
set_option maxHeartbeats 4000000 in
theorem ok_c_allocInFreshPage (hw : WH a0 Z) (x1 : Int32) (σ : Sg) : ∀ x, c_allocInFreshPage x1 σ = some x → Con l Z "ConservativeBiY" fsC (⟨"ConservativeBiY", "allocInFreshPage", "(I)I"⟩ : MethodName) prog_1_method_10_code 4 (some .int) rm_c_allocInFreshPage wC [.ref 0, .int x1] σ (fI x).1 (fI x).2 := by
  refine am_con pnC ?_
  intro p e s m below meth c A n0 h0 hc
  have hT := tabC hw "allocInFreshPage"
  have hF := fsokC hw
  have wi := wiC hw
  unfold c_allocInFreshPage
  refine am_blk (pc' := 1) (Ls' := [.val (.ref 0), .val (.int x1), .unset, .unset]) (St' := [.int x1]) (σ' := σ) [.iload_n 1] (by decide +kernel) hc hT hF wi (by exact rfl) ?_
  refine am_if_lt (o := 8) (pc1 := 9) (by decide +kernel) hc (fun hq => ?_) (fun hq => ?_)
  · refine am_blk (pc' := 10) (Ls' := [.val (.ref 0), .val (.int x1), .unset, .unset]) (St' := [.int (0 : Int32)]) (σ' := σ) [.iconst 0] (by decide +kernel) hc hT hF wi (by exact rfl) ?_
    exact am_retI (by decide +kernel) hc (by decide) (by decide) (fun h W O => ⟨rfl, W, O⟩)
  · refine am_blk (pc' := 6) (Ls' := [.val (.ref 0), .val (.int x1), .unset, .unset]) (St' := [.int (4 : Int32), .int x1]) (σ' := σ) [.iload_n 1, .iconst 4] (by decide +kernel) hc hT hF wi (by exact rfl) ?_
    refine am_icmp_le (o := 5) (pc1 := 11) (by decide +kernel) hc (fun hq => ?_) (fun hq => ?_)
    · refine am_blk (pc' := 10) (Ls' := [.val (.ref 0), .val (.int x1), .unset, .unset]) (St' := [.int (0 : Int32)]) (σ' := σ) [.iconst 0] (by decide +kernel) hc hT hF wi (by exact rfl) ?_
      exact am_retI (by decide +kernel) hc (by decide) (by decide) (fun h W O => ⟨rfl, W, O⟩)
    · refine am_blk (pc' := 23) (Ls' := [.val (.ref 0), .val (.int x1), .unset, .unset]) (St' := [.ref 0, .int ((gi σ 0 13) &&& ((gi σ 0 14) ^^^ (-1 : Int32)))]) (σ' := σ) [.aload_n 0, .getfield 55, .aload_n 0, .getfield 58, .iconst (-1), .ixor, .iand, .aload_n 0] (by decide +kernel) hc hT hF wi (by exact rfl) ?_
      refine am_callP_I (W0 := 1) (argsL := []) (rest := [.int ((gi σ 0 13) &&& ((gi σ 0 14) ^^^ (-1 : Int32)))]) rfl (lk_C_51 hw) rfl wi (by decide +kernel) hc (SubW.refl _) rfl (by show arity "()I" 0 = true; decide +kernel) (ok_c_validPageMask hw _) rfl ⟨by decide, by decide, Nat.le_of_eq rfl, rfl, rfl, by decide, by decide⟩ (fun r1 hr => ?_)
      refine am_blk (pc' := 30) (Ls' := [.val (.ref 0), .val (.int x1), .val (.int (((gi σ 0 13) &&& ((gi σ 0 14) ^^^ (-1 : Int32))) &&& r1.1)), .unset]) (St' := [.int (((gi σ 0 13) &&& ((gi σ 0 14) ^^^ (-1 : Int32))) &&& r1.1), .ref 0]) (σ' := r1.2) [.iand, .istore_n 2, .aload_n 0, .iload_n 2] (by decide +kernel) hc hT hF wi (by exact rfl) ?_
      refine am_callP_I (W0 := 0) (argsL := [.int (((gi σ 0 13) &&& ((gi σ 0 14) ^^^ (-1 : Int32))) &&& r1.1)]) (rest := []) rfl (lk_C_78 hw) rfl wi (by decide +kernel) hc (SubW.refl _) rfl (by show arity "(I)I" 1 = true; decide +kernel) (ok_c_lowestBit hw (((gi σ 0 13) &&& ((gi σ 0 14) ^^^ (-1 : Int32))) &&& r1.1) _) rfl ⟨by decide, by decide, Nat.le_of_eq rfl, rfl, rfl, by decide, by decide⟩ (fun r2 hr => ?_)
      refine am_blk (pc' := 35) (Ls' := [.val (.ref 0), .val (.int x1), .val (.int (((gi σ 0 13) &&& ((gi σ 0 14) ^^^ (-1 : Int32))) &&& r1.1)), .val (.int r2.1)]) (St' := [.int r2.1]) (σ' := r2.2) [.istore_n 3, .iload_n 3] (by decide +kernel) hc hT hF wi (by exact rfl) ?_
      refine am_if_lt (o := 11) (pc1 := 46) (by decide +kernel) hc (fun hq => ?_) (fun hq => ?_)
      · refine am_blk (pc' := 47) (Ls' := [.val (.ref 0), .val (.int x1), .val (.int (((gi σ 0 13) &&& ((gi σ 0 14) ^^^ (-1 : Int32))) &&& r1.1)), .val (.int r2.1)]) (St' := [.int (0 : Int32)]) (σ' := r2.2) [.iconst 0] (by decide +kernel) hc hT hF wi (by exact rfl) ?_
        exact am_retI (by decide +kernel) hc (by decide) (by decide) (fun h W O => ⟨rfl, W, O⟩)
      · refine am_blk (pc' := 43) (Ls' := [.val (.ref 0), .val (.int x1), .val (.int (((gi σ 0 13) &&& ((gi σ 0 14) ^^^ (-1 : Int32))) &&& r1.1)), .val (.int r2.1)]) (St' := [.int (gi r2.2 0 10), .int r2.1]) (σ' := r2.2) [.iload_n 3, .aload_n 0, .getfield 41] (by decide +kernel) hc hT hF wi (by exact rfl) ?_
        refine am_icmp_lt (o := 5) (pc1 := 48) (by decide +kernel) hc (fun hq => ?_) (fun hq => ?_)
        · refine am_blk (pc' := 56) (Ls' := [.val (.ref 0), .val (.int x1), .val (.int (((gi σ 0 13) &&& ((gi σ 0 14) ^^^ (-1 : Int32))) &&& r1.1)), .val (.int r2.1)]) (St' := [.int ((1 : Int32) <<< (x1 &&& 31)), .int r2.1, .ref 3]) (σ' := r2.2) [.aload_n 0, .getfield 16, .iload_n 3, .iconst 1, .iload_n 1, .ishl] (by decide +kernel) hc hT hF wi (by exact rfl) ?_
          refine am_iastore (y := ((1 : Int32) <<< (x1 &&& 31))) rfl (by decide +kernel) hc rfl (fun hb0 => ?_)
          refine am_blk (pc' := 63) (Ls' := [.val (.ref 0), .val (.int x1), .val (.int (((gi σ 0 13) &&& ((gi σ 0 14) ^^^ (-1 : Int32))) &&& r1.1)), .val (.int r2.1)]) (St' := [.int x1, .int r2.1, .ref 4]) (σ' := si r2.2 3 (nx r2.1) ((1 : Int32) <<< (x1 &&& 31))) [.aload_n 0, .getfield 19, .iload_n 3, .iload_n 1] (by decide +kernel) hc hT hF wi (by exact rfl) ?_
          refine am_iastore_k hb0 (y := x1) rfl (by decide +kernel) hc rfl ?_
          refine am_blk (pc' := 70) (Ls' := [.val (.ref 0), .val (.int x1), .val (.int (((gi σ 0 13) &&& ((gi σ 0 14) ^^^ (-1 : Int32))) &&& r1.1)), .val (.int r2.1)]) (St' := [.int (0 : Int32), .int r2.1, .ref 5]) (σ' := si (si r2.2 3 (nx r2.1) ((1 : Int32) <<< (x1 &&& 31))) 4 (nx r2.1) x1) [.aload_n 0, .getfield 22, .iload_n 3, .iconst 0] (by decide +kernel) hc hT hF wi (by exact rfl) ?_
          refine am_iastore_k hb0 (y := (0 : Int32)) rfl (by decide +kernel) hc rfl ?_
          refine am_blk (pc' := 77) (Ls' := [.val (.ref 0), .val (.int x1), .val (.int (((gi σ 0 13) &&& ((gi σ 0 14) ^^^ (-1 : Int32))) &&& r1.1)), .val (.int r2.1)]) (St' := [.int (0 : Int32), .int r2.1, .ref 6]) (σ' := si (si (si r2.2 3 (nx r2.1) ((1 : Int32) <<< (x1 &&& 31))) 4 (nx r2.1) x1) 5 (nx r2.1) (0 : Int32)) [.aload_n 0, .getfield 25, .iload_n 3, .iconst 0] (by decide +kernel) hc hT hF wi (by exact rfl) ?_
          refine am_iastore_k hb0 (y := (0 : Int32)) rfl (by decide +kernel) hc rfl ?_
          refine am_blk (pc' := 81) (Ls' := [.val (.ref 0), .val (.int x1), .val (.int (((gi σ 0 13) &&& ((gi σ 0 14) ^^^ (-1 : Int32))) &&& r1.1)), .val (.int r2.1)]) (St' := [.int (0 : Int32), .int r2.1, .ref 0]) (σ' := si (si (si (si r2.2 3 (nx r2.1) ((1 : Int32) <<< (x1 &&& 31))) 4 (nx r2.1) x1) 5 (nx r2.1) (0 : Int32)) 6 (nx r2.1) (0 : Int32)) [.aload_n 0, .iload_n 3, .iconst 0] (by decide +kernel) hc hT hF wi (by exact rfl) ?_
          refine am_callP_I (W0 := 0) (argsL := [.int r2.1, .int (0 : Int32)]) (rest := []) rfl (lk_C_84 hw) rfl wi (by decide +kernel) hc (SubW.refl _) rfl (by show arity "(II)I" 2 = true; decide +kernel) (ok_c_placeObject hw r2.1 (0 : Int32) _) rfl ⟨by decide, by decide, Nat.le_of_eq rfl, rfl, rfl, by decide, by decide⟩ (fun r3 hr => ?_)
          exact am_retI (by decide +kernel) hc (by decide) (by decide) (fun h W O => ⟨rfl, W, O⟩)
        · refine am_blk (pc' := 47) (Ls' := [.val (.ref 0), .val (.int x1), .val (.int (((gi σ 0 13) &&& ((gi σ 0 14) ^^^ (-1 : Int32))) &&& r1.1)), .val (.int r2.1)]) (St' := [.int (0 : Int32)]) (σ' := r2.2) [.iconst 0] (by decide +kernel) hc hT hF wi (by exact rfl) ?_
          exact am_retI (by decide +kernel) hc (by decide) (by decide) (fun h W O => ⟨rfl, W, O⟩)
abbrev rm_c_alloc : Room := { frames := 4, cells := 0, slots := 0, locals := 63 }
def c_alloc (x1 : Int32) (σ : Sg) : Option (Int32 × Sg) :=
  if x1 < (1 : Int32) then (some ((0 : Int32), σ)) else (if (16 : Int32) < x1 then (some ((0 : Int32), σ)) else ((c_classIndexFor x1 σ).bind fun r1 => (c_allocInClassPage r1.1 r1.2).bind fun r2 => if r2.1 = 0 then ((c_allocInFreshPage r1.1 r2.2).bind fun r3 => some (r3.1, r3.2)) else (some (r2.1, r2.2))))
set_option maxRecDepth 65536 in
set_option maxHeartbeats 4000000 in
theorem ok_c_alloc (hw : WH a0 Z) (x1 : Int32) (σ : Sg) : ∀ x, c_alloc x1 σ = some x → Con l Z "ConservativeBiY" fsC (⟨"ConservativeBiY", "alloc", "(I)I"⟩ : MethodName) prog_1_method_8_code 4 (some .int) rm_c_alloc wC [.ref 0, .int x1] σ (fI x).1 (fI x).2 := by
  refine am_con pnC ?_
  intro p e s m below meth c A n0 h0 hc
  have hT := tabC hw "alloc"
  have hF := fsokC hw
  have wi := wiC hw
  unfold c_alloc
  refine am_blk (pc' := 2) (Ls' := [.val (.ref 0), .val (.int x1), .unset, .unset]) (St' := [.int (1 : Int32), .int x1]) (σ' := σ) [.iload_n 1, .iconst 1] (by decide +kernel) hc hT hF wi (by exact rfl) ?_
  refine am_icmp_lt (o := 9) (pc1 := 11) (by decide +kernel) hc (fun hq => ?_) (fun hq => ?_)
  · refine am_blk (pc' := 12) (Ls' := [.val (.ref 0), .val (.int x1), .unset, .unset]) (St' := [.int (0 : Int32)]) (σ' := σ) [.iconst 0] (by decide +kernel) hc hT hF wi (by exact rfl) ?_
    exact am_retI (by decide +kernel) hc (by decide) (by decide) (fun h W O => ⟨rfl, W, O⟩)
  · refine am_blk (pc' := 8) (Ls' := [.val (.ref 0), .val (.int x1), .unset, .unset]) (St' := [.int (16 : Int32), .int x1]) (σ' := σ) [.iload_n 1, .bipush 16] (by decide +kernel) hc hT hF wi (by exact rfl) ?_
    refine am_icmp_le (o := 5) (pc1 := 13) (by decide +kernel) hc (fun hq => ?_) (fun hq => ?_)
    · refine am_blk (pc' := 12) (Ls' := [.val (.ref 0), .val (.int x1), .unset, .unset]) (St' := [.int (0 : Int32)]) (σ' := σ) [.iconst 0] (by decide +kernel) hc hT hF wi (by exact rfl) ?_
      exact am_retI (by decide +kernel) hc (by decide) (by decide) (fun h W O => ⟨rfl, W, O⟩)
    · refine am_blk (pc' := 15) (Ls' := [.val (.ref 0), .val (.int x1), .unset, .unset]) (St' := [.int x1, .ref 0]) (σ' := σ) [.aload_n 0, .iload_n 1] (by decide +kernel) hc hT hF wi (by exact rfl) ?_
      refine am_callP_I (W0 := 0) (argsL := [.int x1]) (rest := []) rfl (lk_C_68 hw) rfl wi (by decide +kernel) hc (SubW.refl _) rfl (by show arity "(I)I" 1 = true; decide +kernel) (ok_c_classIndexFor hw x1 _) rfl ⟨by decide, by decide, Nat.le_of_eq rfl, rfl, rfl, by decide, by decide⟩ (fun r1 hr => ?_)
      refine am_blk (pc' := 21) (Ls' := [.val (.ref 0), .val (.int x1), .val (.int r1.1), .unset]) (St' := [.int r1.1, .ref 0]) (σ' := r1.2) [.istore_n 2, .aload_n 0, .iload_n 2] (by decide +kernel) hc hT hF wi (by exact rfl) ?_
      refine am_callP_I (W0 := 0) (argsL := [.int r1.1]) (rest := []) rfl (lk_C_72 hw) rfl wi (by decide +kernel) hc (SubW.refl _) rfl (by show arity "(I)I" 1 = true; decide +kernel) (ok_c_allocInClassPage hw r1.1 _) rfl ⟨by decide, by decide, Nat.le_of_eq rfl, rfl, rfl, by decide, by decide⟩ (fun r2 hr => ?_)
      refine am_blk (pc' := 26) (Ls' := [.val (.ref 0), .val (.int x1), .val (.int r1.1), .val (.int r2.1)]) (St' := [.int r2.1]) (σ' := r2.2) [.istore_n 3, .iload_n 3] (by decide +kernel) hc hT hF wi (by exact rfl) ?_
      refine am_if_eq (o := 5) (pc1 := 31) (by decide +kernel) hc (fun hq => ?_) (fun hq => ?_)
      · refine am_blk (pc' := 33) (Ls' := [.val (.ref 0), .val (.int x1), .val (.int r1.1), .val (.int r2.1)]) (St' := [.int r1.1, .ref 0]) (σ' := r2.2) [.aload_n 0, .iload_n 2] (by decide +kernel) hc hT hF wi (by exact rfl) ?_
        refine am_callP_I (W0 := 0) (argsL := [.int r1.1]) (rest := []) rfl (lk_C_75 hw) rfl wi (by decide +kernel) hc (SubW.refl _) rfl (by show arity "(I)I" 1 = true; decide +kernel) (ok_c_allocInFreshPage hw r1.1 _) rfl ⟨by decide, by decide, Nat.le_of_eq rfl, rfl, rfl, by decide, by decide⟩ (fun r3 hr => ?_)
        exact am_retI (by decide +kernel) hc (by decide) (by decide) (fun h W O => ⟨rfl, W, O⟩)
      · refine am_blk (pc' := 30) (Ls' := [.val (.ref 0), .val (.int x1), .val (.int r1.1), .val (.int r2.1)]) (St' := [.int r2.1]) (σ' := r2.2) [.iload_n 3] (by decide +kernel) hc hT hF wi (by exact rfl) ?_
        exact am_retI (by decide +kernel) hc (by decide) (by decide) (fun h W O => ⟨rfl, W, O⟩)
abbrev rm_c_pageOf : Room := { frames := 0, cells := 0, slots := 0, locals := 0 }
def c_pageOf (x1 : Int32) (σ : Sg) : Option (Int32 × Sg) :=
  if x1 < (4096 : Int32) then (some ((-1 : Int32), σ)) else (if (x1 - (4096 : Int32)) < ((gi σ 0 10) <<< ((4 : Int32) &&& 31)) then (some ((x1 - (4096 : Int32)) >>> ((4 : Int32) &&& 31), σ)) else (some ((-1 : Int32), σ)))
set_option maxRecDepth 65536 in
set_option maxHeartbeats 4000000 in
theorem ok_c_pageOf (hw : WH a0 Z) (x1 : Int32) (σ : Sg) : ∀ x, c_pageOf x1 σ = some x → Con l Z "ConservativeBiY" fsC (⟨"ConservativeBiY", "pageOf", "(I)I"⟩ : MethodName) prog_1_method_19_code 3 (some .int) rm_c_pageOf wC [.ref 0, .int x1] σ (fI x).1 (fI x).2 := by
  refine am_con pnC ?_
  intro p e s m below meth c A n0 h0 hc
  have hT := tabC hw "pageOf"
  have hF := fsokC hw
  have wi := wiC hw
  unfold c_pageOf
  refine am_blk (pc' := 4) (Ls' := [.val (.ref 0), .val (.int x1), .unset]) (St' := [.int (4096 : Int32), .int x1]) (σ' := σ) [.iload_n 1, .sipush 4096] (by decide +kernel) hc hT hF wi (by exact rfl) ?_
  refine am_icmp_ge (o := 5) (pc1 := 9) (by decide +kernel) hc (fun hq => ?_) (fun hq => ?_)
  · refine am_blk (pc' := 8) (Ls' := [.val (.ref 0), .val (.int x1), .unset]) (St' := [.int (-1 : Int32)]) (σ' := σ) [.iconst (-1)] (by decide +kernel) hc hT hF wi (by exact rfl) ?_
    exact am_retI (by decide +kernel) hc (by decide) (by decide) (fun h W O => ⟨rfl, W, O⟩)
  · refine am_blk (pc' := 22) (Ls' := [.val (.ref 0), .val (.int x1), .val (.int (x1 - (4096 : Int32)))]) (St' := [.int ((gi σ 0 10) <<< ((4 : Int32) &&& 31)), .int (x1 - (4096 : Int32))]) (σ' := σ) [.iload_n 1, .sipush 4096, .isub, .istore_n 2, .iload_n 2, .aload_n 0, .getfield 41, .iconst 4, .ishl] (by decide +kernel) hc hT hF wi (by exact rfl) ?_
    refine am_icmp_lt (o := 5) (pc1 := 27) (by decide +kernel) hc (fun hq => ?_) (fun hq => ?_)
    · refine am_blk (pc' := 30) (Ls' := [.val (.ref 0), .val (.int x1), .val (.int (x1 - (4096 : Int32)))]) (St' := [.int ((x1 - (4096 : Int32)) >>> ((4 : Int32) &&& 31))]) (σ' := σ) [.iload_n 2, .iconst 4, .ishr] (by decide +kernel) hc hT hF wi (by exact rfl) ?_
      exact am_retI (by decide +kernel) hc (by decide) (by decide) (fun h W O => ⟨rfl, W, O⟩)
    · refine am_blk (pc' := 26) (Ls' := [.val (.ref 0), .val (.int x1), .val (.int (x1 - (4096 : Int32)))]) (St' := [.int (-1 : Int32)]) (σ' := σ) [.iconst (-1)] (by decide +kernel) hc hT hF wi (by exact rfl) ?_
      exact am_retI (by decide +kernel) hc (by decide) (by decide) (fun h W O => ⟨rfl, W, O⟩)
abbrev rm_c_slotOf : Room := { frames := 0, cells := 0, slots := 0, locals := 0 }
def c_slotOf (x1 : Int32) (x2 : Int32) (σ : Sg) : Option (Int32 × Sg) :=
  if ((x1 - (4096 : Int32)) - (x2 <<< ((4 : Int32) &&& 31))) < 0 then (some ((-1 : Int32), σ)) else (if (15 : Int32) < ((x1 - (4096 : Int32)) - (x2 <<< ((4 : Int32) &&& 31))) then (some ((-1 : Int32), σ)) else (if inb x2 16 = true then (some (((x1 - (4096 : Int32)) - (x2 <<< ((4 : Int32) &&& 31))) >>> ((gi σ 4 (nx x2)) &&& 31), σ)) else none))
set_option maxRecDepth 65536 in
set_option maxHeartbeats 4000000 in
theorem ok_c_slotOf (hw : WH a0 Z) (x1 : Int32) (x2 : Int32) (σ : Sg) : ∀ x, c_slotOf x1 x2 σ = some x → Con l Z "ConservativeBiY" fsC (⟨"ConservativeBiY", "slotOf", "(II)I"⟩ : MethodName) prog_1_method_20_code 4 (some .int) rm_c_slotOf wC [.ref 0, .int x1, .int x2] σ (fI x).1 (fI x).2 := by
  refine am_con pnC ?_
  intro p e s m below meth c A n0 h0 hc
  have hT := tabC hw "slotOf"
  have hF := fsokC hw
  have wi := wiC hw
  unfold c_slotOf
  refine am_blk (pc' := 11) (Ls' := [.val (.ref 0), .val (.int x1), .val (.int x2), .val (.int ((x1 - (4096 : Int32)) - (x2 <<< ((4 : Int32) &&& 31))))]) (St' := [.int ((x1 - (4096 : Int32)) - (x2 <<< ((4 : Int32) &&& 31)))]) (σ' := σ) [.iload_n 1, .sipush 4096, .isub, .iload_n 2, .iconst 4, .ishl, .isub, .istore_n 3, .iload_n 3] (by decide +kernel) hc hT hF wi (by exact rfl) ?_
  refine am_if_lt (o := 9) (pc1 := 20) (by decide +kernel) hc (fun hq => ?_) (fun hq => ?_)
  · refine am_blk (pc' := 21) (Ls' := [.val (.ref 0), .val (.int x1), .val (.int x2), .val (.int ((x1 - (4096 : Int32)) - (x2 <<< ((4 : Int32) &&& 31))))]) (St' := [.int (-1 : Int32)]) (σ' := σ) [.iconst (-1)] (by decide +kernel) hc hT hF wi (by exact rfl) ?_
    exact am_retI (by decide +kernel) hc (by decide) (by decide) (fun h W O => ⟨rfl, W, O⟩)
  · refine am_blk (pc' := 17) (Ls' := [.val (.ref 0), .val (.int x1), .val (.int x2), .val (.int ((x1 - (4096 : Int32)) - (x2 <<< ((4 : Int32) &&& 31))))]) (St' := [.int (15 : Int32), .int ((x1 - (4096 : Int32)) - (x2 <<< ((4 : Int32) &&& 31)))]) (σ' := σ) [.iload_n 3, .bipush 15] (by decide +kernel) hc hT hF wi (by exact rfl) ?_
    refine am_icmp_le (o := 5) (pc1 := 22) (by decide +kernel) hc (fun hq => ?_) (fun hq => ?_)
    · refine am_blk (pc' := 21) (Ls' := [.val (.ref 0), .val (.int x1), .val (.int x2), .val (.int ((x1 - (4096 : Int32)) - (x2 <<< ((4 : Int32) &&& 31))))]) (St' := [.int (-1 : Int32)]) (σ' := σ) [.iconst (-1)] (by decide +kernel) hc hT hF wi (by exact rfl) ?_
      exact am_retI (by decide +kernel) hc (by decide) (by decide) (fun h W O => ⟨rfl, W, O⟩)
    · refine am_blk (pc' := 28) (Ls' := [.val (.ref 0), .val (.int x1), .val (.int x2), .val (.int ((x1 - (4096 : Int32)) - (x2 <<< ((4 : Int32) &&& 31))))]) (St' := [.int x2, .ref 4, .int ((x1 - (4096 : Int32)) - (x2 <<< ((4 : Int32) &&& 31)))]) (σ' := σ) [.iload_n 3, .aload_n 0, .getfield 19, .iload_n 2] (by decide +kernel) hc hT hF wi (by exact rfl) ?_
      refine am_iaload (by decide +kernel) hc rfl (fun hb0 => ?_)
      refine am_blk (pc' := 30) (Ls' := [.val (.ref 0), .val (.int x1), .val (.int x2), .val (.int ((x1 - (4096 : Int32)) - (x2 <<< ((4 : Int32) &&& 31))))]) (St' := [.int (((x1 - (4096 : Int32)) - (x2 <<< ((4 : Int32) &&& 31))) >>> ((gi σ 4 (nx x2)) &&& 31))]) (σ' := σ) [.ishr] (by decide +kernel) hc hT hF wi (by exact rfl) ?_
      exact am_retI (by decide +kernel) hc (by decide) (by decide) (fun h W O => ⟨rfl, W, O⟩)
abbrev rm_c_slotLive : Room := { frames := 0, cells := 0, slots := 0, locals := 0 }
def c_slotLive (x1 : Int32) (x2 : Int32) (σ : Sg) : Option (Int32 × Sg) :=
  if x1 < 0 then (some ((0 : Int32), σ)) else (if x1 < (16 : Int32) then (if x2 < 0 then (some ((0 : Int32), σ)) else (if x2 < (16 : Int32) then (if inb x1 16 = true then (if (((gi σ 5 (nx x1)) >>> (x2 &&& 31)) &&& (1 : Int32)) = 0 then (some ((0 : Int32), σ)) else (some ((1 : Int32), σ))) else none) else (some ((0 : Int32), σ)))) else (some ((0 : Int32), σ)))
set_option maxRecDepth 65536 in
set_option maxHeartbeats 4000000 in
theorem ok_c_slotLive (hw : WH a0 Z) (x1 : Int32) (x2 : Int32) (σ : Sg) : ∀ x, c_slotLive x1 x2 σ = some x → Con l Z "ConservativeBiY" fsC (⟨"ConservativeBiY", "slotLive", "(II)Z"⟩ : MethodName) prog_1_method_22_code 3 (some .boolean) rm_c_slotLive wC [.ref 0, .int x1, .int x2] σ (fI x).1 (fI x).2 := by
  refine am_con pnC ?_
  intro p e s m below meth c A n0 h0 hc
  have hT := tabC hw "slotLive"
  have hF := fsokC hw
  have wi := wiC hw
  unfold c_slotLive
  refine am_blk (pc' := 1) (Ls' := [.val (.ref 0), .val (.int x1), .val (.int x2)]) (St' := [.int x1]) (σ' := σ) [.iload_n 1] (by decide +kernel) hc hT hF wi (by exact rfl) ?_
  refine am_if_lt (o := 19) (pc1 := 20) (by decide +kernel) hc (fun hq => ?_) (fun hq => ?_)
  · refine am_blk (pc' := 21) (Ls' := [.val (.ref 0), .val (.int x1), .val (.int x2)]) (St' := [.int (0 : Int32)]) (σ' := σ) [.iconst 0] (by decide +kernel) hc hT hF wi (by exact rfl) ?_
    exact am_retZ (by decide +kernel) hc (by decide) (by decide) (fun h W O => ⟨rfl, W, O⟩)
  · refine am_blk (pc' := 7) (Ls' := [.val (.ref 0), .val (.int x1), .val (.int x2)]) (St' := [.int (16 : Int32), .int x1]) (σ' := σ) [.iload_n 1, .bipush 16] (by decide +kernel) hc hT hF wi (by exact rfl) ?_
    refine am_icmp_ge (o := 13) (pc1 := 20) (by decide +kernel) hc (fun hq => ?_) (fun hq => ?_)
    · refine am_blk (pc' := 11) (Ls' := [.val (.ref 0), .val (.int x1), .val (.int x2)]) (St' := [.int x2]) (σ' := σ) [.iload_n 2] (by decide +kernel) hc hT hF wi (by exact rfl) ?_
      refine am_if_lt (o := 9) (pc1 := 20) (by decide +kernel) hc (fun hq => ?_) (fun hq => ?_)
      · refine am_blk (pc' := 21) (Ls' := [.val (.ref 0), .val (.int x1), .val (.int x2)]) (St' := [.int (0 : Int32)]) (σ' := σ) [.iconst 0] (by decide +kernel) hc hT hF wi (by exact rfl) ?_
        exact am_retZ (by decide +kernel) hc (by decide) (by decide) (fun h W O => ⟨rfl, W, O⟩)
      · refine am_blk (pc' := 17) (Ls' := [.val (.ref 0), .val (.int x1), .val (.int x2)]) (St' := [.int (16 : Int32), .int x2]) (σ' := σ) [.iload_n 2, .bipush 16] (by decide +kernel) hc hT hF wi (by exact rfl) ?_
        refine am_icmp_lt (o := 5) (pc1 := 22) (by decide +kernel) hc (fun hq => ?_) (fun hq => ?_)
        · refine am_blk (pc' := 27) (Ls' := [.val (.ref 0), .val (.int x1), .val (.int x2)]) (St' := [.int x1, .ref 5]) (σ' := σ) [.aload_n 0, .getfield 22, .iload_n 1] (by decide +kernel) hc hT hF wi (by exact rfl) ?_
          refine am_iaload (by decide +kernel) hc rfl (fun hb0 => ?_)
          refine am_blk (pc' := 32) (Ls' := [.val (.ref 0), .val (.int x1), .val (.int x2)]) (St' := [.int (((gi σ 5 (nx x1)) >>> (x2 &&& 31)) &&& (1 : Int32))]) (σ' := σ) [.iload_n 2, .ishr, .iconst 1, .iand] (by decide +kernel) hc hT hF wi (by exact rfl) ?_
          refine am_if_eq (o := 7) (pc1 := 39) (by decide +kernel) hc (fun hq => ?_) (fun hq => ?_)
          · refine am_blk (pc' := 40) (Ls' := [.val (.ref 0), .val (.int x1), .val (.int x2)]) (St' := [.int (0 : Int32)]) (σ' := σ) [.iconst 0] (by decide +kernel) hc hT hF wi (by exact rfl) ?_
            exact am_retZ (by decide +kernel) hc (by decide) (by decide) (fun h W O => ⟨rfl, W, O⟩)
          · refine am_blk (pc' := 40) (Ls' := [.val (.ref 0), .val (.int x1), .val (.int x2)]) (St' := [.int (1 : Int32)]) (σ' := σ) [.iconst 1, .goto 4] (by decide +kernel) hc hT hF wi (by exact rfl) ?_
            exact am_retZ (by decide +kernel) hc (by decide) (by decide) (fun h W O => ⟨rfl, W, O⟩)
        · refine am_blk (pc' := 21) (Ls' := [.val (.ref 0), .val (.int x1), .val (.int x2)]) (St' := [.int (0 : Int32)]) (σ' := σ) [.iconst 0] (by decide +kernel) hc hT hF wi (by exact rfl) ?_
          exact am_retZ (by decide +kernel) hc (by decide) (by decide) (fun h W O => ⟨rfl, W, O⟩)
    · refine am_blk (pc' := 21) (Ls' := [.val (.ref 0), .val (.int x1), .val (.int x2)]) (St' := [.int (0 : Int32)]) (σ' := σ) [.iconst 0] (by decide +kernel) hc hT hF wi (by exact rfl) ?_
      exact am_retZ (by decide +kernel) hc (by decide) (by decide) (fun h W O => ⟨rfl, W, O⟩)
abbrev rm_c_findStart : Room := { frames := 1, cells := 0, slots := 0, locals := 15 }
def c_findStart (x1 : Int32) (σ : Sg) : Option (Int32 × Sg) :=
  (c_pageOf x1 σ).bind fun r1 => if r1.1 < 0 then (some ((0 : Int32), r1.2)) else (if inb r1.1 16 = true then (if (gi r1.2 3 (nx r1.1)) = 0 then (some ((0 : Int32), r1.2)) else ((c_slotOf x1 r1.1 r1.2).bind fun r2 => (c_slotLive r1.1 r2.1 r2.2).bind fun r3 => if r3.1 = 0 then (some ((0 : Int32), r3.2)) else ((c_slotStart r1.1 r2.1 r3.2).bind fun r4 => some (r4.1, r4.2)))) else none)
set_option maxRecDepth 65536 in
set_option maxHeartbeats 4000000 in
theorem ok_c_findStart (hw : WH a0 Z) (x1 : Int32) (σ : Sg) : ∀ x, c_findStart x1 σ = some x → Con l Z "ConservativeBiY" fsC (⟨"ConservativeBiY", "findStart", "(I)I"⟩ : MethodName) prog_1_method_23_code 4 (some .int) rm_c_findStart wC [.ref 0, .int x1] σ (fI x).1 (fI x).2 := by
  refine am_con pnC ?_
  intro p e s m below meth c A n0 h0 hc
  have hT := tabC hw "findStart"
  have hF := fsokC hw
  have wi := wiC hw
  unfold c_findStart
  refine am_blk (pc' := 2) (Ls' := [.val (.ref 0), .val (.int x1), .unset, .unset]) (St' := [.int x1, .ref 0]) (σ' := σ) [.aload_n 0, .iload_n 1] (by decide +kernel) hc hT hF wi (by exact rfl) ?_
  refine am_callP_I (W0 := 0) (argsL := [.int x1]) (rest := []) rfl (lk_C_102 hw) rfl wi (by decide +kernel) hc (SubW.refl _) rfl (by show arity "(I)I" 1 = true; decide +kernel) (ok_c_pageOf hw x1 _) rfl ⟨by decide, by decide, Nat.le_of_eq rfl, rfl, rfl, by decide, by decide⟩ (fun r1 hr => ?_)
  refine am_blk (pc' := 7) (Ls' := [.val (.ref 0), .val (.int x1), .val (.int r1.1), .unset]) (St' := [.int r1.1]) (σ' := r1.2) [.istore_n 2, .iload_n 2] (by decide +kernel) hc hT hF wi (by exact rfl) ?_
  refine am_if_ge (o := 5) (pc1 := 12) (by decide +kernel) hc (fun hq => ?_) (fun hq => ?_)
  · refine am_blk (pc' := 11) (Ls' := [.val (.ref 0), .val (.int x1), .val (.int r1.1), .unset]) (St' := [.int (0 : Int32)]) (σ' := r1.2) [.iconst 0] (by decide +kernel) hc hT hF wi (by exact rfl) ?_
    exact am_retI (by decide +kernel) hc (by decide) (by decide) (fun h W O => ⟨rfl, W, O⟩)
  · refine am_blk (pc' := 17) (Ls' := [.val (.ref 0), .val (.int x1), .val (.int r1.1), .unset]) (St' := [.int r1.1, .ref 3]) (σ' := r1.2) [.aload_n 0, .getfield 16, .iload_n 2] (by decide +kernel) hc hT hF wi (by exact rfl) ?_
    refine am_iaload (by decide +kernel) hc rfl (fun hb0 => ?_)
    refine am_if_ne (o := 5) (pc1 := 23) (by decide +kernel) hc (fun hq => ?_) (fun hq => ?_)
    · refine am_blk (pc' := 22) (Ls' := [.val (.ref 0), .val (.int x1), .val (.int r1.1), .unset]) (St' := [.int (0 : Int32)]) (σ' := r1.2) [.iconst 0] (by decide +kernel) hc hT hF wi (by exact rfl) ?_
      exact am_retI (by decide +kernel) hc (by decide) (by decide) (fun h W O => ⟨rfl, W, O⟩)
    · refine am_blk (pc' := 26) (Ls' := [.val (.ref 0), .val (.int x1), .val (.int r1.1), .unset]) (St' := [.int r1.1, .int x1, .ref 0]) (σ' := r1.2) [.aload_n 0, .iload_n 1, .iload_n 2] (by decide +kernel) hc hT hF wi (by exact rfl) ?_
      refine am_callP_I (W0 := 0) (argsL := [.int x1, .int r1.1]) (rest := []) rfl (lk_C_105 hw) rfl wi (by decide +kernel) hc (SubW.refl _) rfl (by show arity "(II)I" 2 = true; decide +kernel) (ok_c_slotOf hw x1 r1.1 _) rfl ⟨by decide, by decide, Nat.le_of_eq rfl, rfl, rfl, by decide, by decide⟩ (fun r2 hr => ?_)
      refine am_blk (pc' := 33) (Ls' := [.val (.ref 0), .val (.int x1), .val (.int r1.1), .val (.int r2.1)]) (St' := [.int r2.1, .int r1.1, .ref 0]) (σ' := r2.2) [.istore_n 3, .aload_n 0, .iload_n 2, .iload_n 3] (by decide +kernel) hc hT hF wi (by exact rfl) ?_
      refine am_callP_I (W0 := 0) (argsL := [.int r1.1, .int r2.1]) (rest := []) rfl (lk_C_108 hw) rfl wi (by decide +kernel) hc (SubW.refl _) rfl (by show arity "(II)Z" 2 = true; decide +kernel) (ok_c_slotLive hw r1.1 r2.1 _) rfl ⟨by decide, by decide, Nat.le_of_eq rfl, rfl, rfl, by decide, by decide⟩ (fun r3 hr => ?_)
      refine am_if_ne (o := 5) (pc1 := 41) (by decide +kernel) hc (fun hq => ?_) (fun hq => ?_)
      · refine am_blk (pc' := 40) (Ls' := [.val (.ref 0), .val (.int x1), .val (.int r1.1), .val (.int r2.1)]) (St' := [.int (0 : Int32)]) (σ' := r3.2) [.iconst 0] (by decide +kernel) hc hT hF wi (by exact rfl) ?_
        exact am_retI (by decide +kernel) hc (by decide) (by decide) (fun h W O => ⟨rfl, W, O⟩)
      · refine am_blk (pc' := 44) (Ls' := [.val (.ref 0), .val (.int x1), .val (.int r1.1), .val (.int r2.1)]) (St' := [.int r2.1, .int r1.1, .ref 0]) (σ' := r3.2) [.aload_n 0, .iload_n 2, .iload_n 3] (by decide +kernel) hc hT hF wi (by exact rfl) ?_
        refine am_callP_I (W0 := 0) (argsL := [.int r1.1, .int r2.1]) (rest := []) rfl (lk_C_88 hw) rfl wi (by decide +kernel) hc (SubW.refl _) rfl (by show arity "(II)I" 2 = true; decide +kernel) (ok_c_slotStart hw r1.1 r2.1 _) rfl ⟨by decide, by decide, Nat.le_of_eq rfl, rfl, rfl, by decide, by decide⟩ (fun r4 hr => ?_)
        exact am_retI (by decide +kernel) hc (by decide) (by decide) (fun h W O => ⟨rfl, W, O⟩)
abbrev rm_c_store : Room := { frames := 2, cells := 0, slots := 0, locals := 30 }
def c_store (x1 : Int32) (x2 : Int32) (σ : Sg) : Option (Int32 × Sg) :=
  (c_findStart x1 σ).bind fun r1 => if r1.1 = 0 then (some ((0 : Int32), r1.2)) else (if (x1 - (4096 : Int32)) < 0 then (some ((0 : Int32), r1.2)) else (if (x1 - (4096 : Int32)) < (256 : Int32) then (if inb (x1 - (4096 : Int32)) 256 = true then (some ((1 : Int32), si r1.2 2 (nx (x1 - (4096 : Int32))) x2)) else none) else (some ((0 : Int32), r1.2))))
set_option maxRecDepth 65536 in
set_option maxHeartbeats 4000000 in
theorem ok_c_store (hw : WH a0 Z) (x1 : Int32) (x2 : Int32) (σ : Sg) : ∀ x, c_store x1 x2 σ = some x → Con l Z "ConservativeBiY" fsC (⟨"ConservativeBiY", "store", "(II)Z"⟩ : MethodName) prog_1_method_17_code 5 (some .boolean) rm_c_store wC [.ref 0, .int x1, .int x2] σ (fI x).1 (fI x).2 := by
  refine am_con pnC ?_
  intro p e s m below meth c A n0 h0 hc
  have hT := tabC hw "store"
  have hF := fsokC hw
  have wi := wiC hw
  unfold c_store
  refine am_blk (pc' := 2) (Ls' := [.val (.ref 0), .val (.int x1), .val (.int x2), .unset, .unset]) (St' := [.int x1, .ref 0]) (σ' := σ) [.aload_n 0, .iload_n 1] (by decide +kernel) hc hT hF wi (by exact rfl) ?_
  refine am_callP_I (W0 := 0) (argsL := [.int x1]) (rest := []) rfl (lk_C_99 hw) rfl wi (by decide +kernel) hc (SubW.refl _) rfl (by show arity "(I)I" 1 = true; decide +kernel) (ok_c_findStart hw x1 _) rfl ⟨by decide, by decide, Nat.le_of_eq rfl, rfl, rfl, by decide, by decide⟩ (fun r1 hr => ?_)
  refine am_blk (pc' := 7) (Ls' := [.val (.ref 0), .val (.int x1), .val (.int x2), .val (.int r1.1), .unset]) (St' := [.int r1.1]) (σ' := r1.2) [.istore_n 3, .iload_n 3] (by decide +kernel) hc hT hF wi (by exact rfl) ?_
  refine am_if_ne (o := 5) (pc1 := 12) (by decide +kernel) hc (fun hq => ?_) (fun hq => ?_)
  · refine am_blk (pc' := 11) (Ls' := [.val (.ref 0), .val (.int x1), .val (.int x2), .val (.int r1.1), .unset]) (St' := [.int (0 : Int32)]) (σ' := r1.2) [.iconst 0] (by decide +kernel) hc hT hF wi (by exact rfl) ?_
    exact am_retZ (by decide +kernel) hc (by decide) (by decide) (fun h W O => ⟨rfl, W, O⟩)
  · refine am_blk (pc' := 21) (Ls' := [.val (.ref 0), .val (.int x1), .val (.int x2), .val (.int r1.1), .val (.int (x1 - (4096 : Int32)))]) (St' := [.int (x1 - (4096 : Int32))]) (σ' := r1.2) [.iload_n 1, .sipush 4096, .isub, .istore 4, .iload 4] (by decide +kernel) hc hT hF wi (by exact rfl) ?_
    refine am_if_lt (o := 11) (pc1 := 32) (by decide +kernel) hc (fun hq => ?_) (fun hq => ?_)
    · refine am_blk (pc' := 33) (Ls' := [.val (.ref 0), .val (.int x1), .val (.int x2), .val (.int r1.1), .val (.int (x1 - (4096 : Int32)))]) (St' := [.int (0 : Int32)]) (σ' := r1.2) [.iconst 0] (by decide +kernel) hc hT hF wi (by exact rfl) ?_
      exact am_retZ (by decide +kernel) hc (by decide) (by decide) (fun h W O => ⟨rfl, W, O⟩)
    · refine am_blk (pc' := 29) (Ls' := [.val (.ref 0), .val (.int x1), .val (.int x2), .val (.int r1.1), .val (.int (x1 - (4096 : Int32)))]) (St' := [.int (256 : Int32), .int (x1 - (4096 : Int32))]) (σ' := r1.2) [.iload 4, .sipush 256] (by decide +kernel) hc hT hF wi (by exact rfl) ?_
      refine am_icmp_lt (o := 5) (pc1 := 34) (by decide +kernel) hc (fun hq => ?_) (fun hq => ?_)
      · refine am_blk (pc' := 41) (Ls' := [.val (.ref 0), .val (.int x1), .val (.int x2), .val (.int r1.1), .val (.int (x1 - (4096 : Int32)))]) (St' := [.int x2, .int (x1 - (4096 : Int32)), .ref 2]) (σ' := r1.2) [.aload_n 0, .getfield 13, .iload 4, .iload_n 2] (by decide +kernel) hc hT hF wi (by exact rfl) ?_
        refine am_iastore (y := x2) rfl (by decide +kernel) hc rfl (fun hb0 => ?_)
        refine am_blk (pc' := 43) (Ls' := [.val (.ref 0), .val (.int x1), .val (.int x2), .val (.int r1.1), .val (.int (x1 - (4096 : Int32)))]) (St' := [.int (1 : Int32)]) (σ' := si r1.2 2 (nx (x1 - (4096 : Int32))) x2) [.iconst 1] (by decide +kernel) hc hT hF wi (by exact rfl) ?_
        exact am_retZ (by decide +kernel) hc (by decide) (by decide) (fun h W O => ⟨rfl, W, O⟩)
      · refine am_blk (pc' := 33) (Ls' := [.val (.ref 0), .val (.int x1), .val (.int x2), .val (.int r1.1), .val (.int (x1 - (4096 : Int32)))]) (St' := [.int (0 : Int32)]) (σ' := r1.2) [.iconst 0] (by decide +kernel) hc hT hF wi (by exact rfl) ?_
        exact am_retZ (by decide +kernel) hc (by decide) (by decide) (fun h W O => ⟨rfl, W, O⟩)
abbrev rm_c_load : Room := { frames := 2, cells := 0, slots := 0, locals := 30 }
def c_load (x1 : Int32) (σ : Sg) : Option (Int32 × Sg) :=
  (c_findStart x1 σ).bind fun r1 => if r1.1 = 0 then (some ((0 : Int32), r1.2)) else (if (x1 - (4096 : Int32)) < 0 then (some ((0 : Int32), r1.2)) else (if (x1 - (4096 : Int32)) < (256 : Int32) then (if inb (x1 - (4096 : Int32)) 256 = true then (some (gi r1.2 2 (nx (x1 - (4096 : Int32))), r1.2)) else none) else (some ((0 : Int32), r1.2))))
set_option maxRecDepth 65536 in
set_option maxHeartbeats 4000000 in
theorem ok_c_load (hw : WH a0 Z) (x1 : Int32) (σ : Sg) : ∀ x, c_load x1 σ = some x → Con l Z "ConservativeBiY" fsC (⟨"ConservativeBiY", "load", "(I)I"⟩ : MethodName) prog_1_method_18_code 4 (some .int) rm_c_load wC [.ref 0, .int x1] σ (fI x).1 (fI x).2 := by
  refine am_con pnC ?_
  intro p e s m below meth c A n0 h0 hc
  have hT := tabC hw "load"
  have hF := fsokC hw
  have wi := wiC hw
  unfold c_load
  refine am_blk (pc' := 2) (Ls' := [.val (.ref 0), .val (.int x1), .unset, .unset]) (St' := [.int x1, .ref 0]) (σ' := σ) [.aload_n 0, .iload_n 1] (by decide +kernel) hc hT hF wi (by exact rfl) ?_
  refine am_callP_I (W0 := 0) (argsL := [.int x1]) (rest := []) rfl (lk_C_99 hw) rfl wi (by decide +kernel) hc (SubW.refl _) rfl (by show arity "(I)I" 1 = true; decide +kernel) (ok_c_findStart hw x1 _) rfl ⟨by decide, by decide, Nat.le_of_eq rfl, rfl, rfl, by decide, by decide⟩ (fun r1 hr => ?_)
  refine am_blk (pc' := 7) (Ls' := [.val (.ref 0), .val (.int x1), .val (.int r1.1), .unset]) (St' := [.int r1.1]) (σ' := r1.2) [.istore_n 2, .iload_n 2] (by decide +kernel) hc hT hF wi (by exact rfl) ?_
  refine am_if_ne (o := 5) (pc1 := 12) (by decide +kernel) hc (fun hq => ?_) (fun hq => ?_)
  · refine am_blk (pc' := 11) (Ls' := [.val (.ref 0), .val (.int x1), .val (.int r1.1), .unset]) (St' := [.int (0 : Int32)]) (σ' := r1.2) [.iconst 0] (by decide +kernel) hc hT hF wi (by exact rfl) ?_
    exact am_retI (by decide +kernel) hc (by decide) (by decide) (fun h W O => ⟨rfl, W, O⟩)
  · refine am_blk (pc' := 19) (Ls' := [.val (.ref 0), .val (.int x1), .val (.int r1.1), .val (.int (x1 - (4096 : Int32)))]) (St' := [.int (x1 - (4096 : Int32))]) (σ' := r1.2) [.iload_n 1, .sipush 4096, .isub, .istore_n 3, .iload_n 3] (by decide +kernel) hc hT hF wi (by exact rfl) ?_
    refine am_if_lt (o := 10) (pc1 := 29) (by decide +kernel) hc (fun hq => ?_) (fun hq => ?_)
    · refine am_blk (pc' := 30) (Ls' := [.val (.ref 0), .val (.int x1), .val (.int r1.1), .val (.int (x1 - (4096 : Int32)))]) (St' := [.int (0 : Int32)]) (σ' := r1.2) [.iconst 0] (by decide +kernel) hc hT hF wi (by exact rfl) ?_
      exact am_retI (by decide +kernel) hc (by decide) (by decide) (fun h W O => ⟨rfl, W, O⟩)
    · refine am_blk (pc' := 26) (Ls' := [.val (.ref 0), .val (.int x1), .val (.int r1.1), .val (.int (x1 - (4096 : Int32)))]) (St' := [.int (256 : Int32), .int (x1 - (4096 : Int32))]) (σ' := r1.2) [.iload_n 3, .sipush 256] (by decide +kernel) hc hT hF wi (by exact rfl) ?_
      refine am_icmp_lt (o := 5) (pc1 := 31) (by decide +kernel) hc (fun hq => ?_) (fun hq => ?_)
      · refine am_blk (pc' := 36) (Ls' := [.val (.ref 0), .val (.int x1), .val (.int r1.1), .val (.int (x1 - (4096 : Int32)))]) (St' := [.int (x1 - (4096 : Int32)), .ref 2]) (σ' := r1.2) [.aload_n 0, .getfield 13, .iload_n 3] (by decide +kernel) hc hT hF wi (by exact rfl) ?_
        refine am_iaload (by decide +kernel) hc rfl (fun hb0 => ?_)
        exact am_retI (by decide +kernel) hc (by decide) (by decide) (fun h W O => ⟨rfl, W, O⟩)
      · refine am_blk (pc' := 30) (Ls' := [.val (.ref 0), .val (.int x1), .val (.int r1.1), .val (.int (x1 - (4096 : Int32)))]) (St' := [.int (0 : Int32)]) (σ' := r1.2) [.iconst 0] (by decide +kernel) hc hT hF wi (by exact rfl) ?_
        exact am_retI (by decide +kernel) hc (by decide) (by decide) (fun h W O => ⟨rfl, W, O⟩)
abbrev rm_c_objectStart : Room := { frames := 2, cells := 0, slots := 0, locals := 30 }
def c_objectStart (x1 : Int32) (σ : Sg) : Option (Int32 × Sg) :=
  (c_findStart x1 σ).bind fun r1 => some (r1.1, r1.2)
set_option maxRecDepth 65536 in
set_option maxHeartbeats 4000000 in
theorem ok_c_objectStart (hw : WH a0 Z) (x1 : Int32) (σ : Sg) : ∀ x, c_objectStart x1 σ = some x → Con l Z "ConservativeBiY" fsC (⟨"ConservativeBiY", "objectStart", "(I)I"⟩ : MethodName) prog_1_method_33_code 2 (some .int) rm_c_objectStart wC [.ref 0, .int x1] σ (fI x).1 (fI x).2 := by
  refine am_con pnC ?_
  intro p e s m below meth c A n0 h0 hc
  have hT := tabC hw "objectStart"
  have hF := fsokC hw
  have wi := wiC hw
  unfold c_objectStart
  refine am_blk (pc' := 2) (Ls' := [.val (.ref 0), .val (.int x1)]) (St' := [.int x1, .ref 0]) (σ' := σ) [.aload_n 0, .iload_n 1] (by decide +kernel) hc hT hF wi (by exact rfl) ?_
  refine am_callP_I (W0 := 0) (argsL := [.int x1]) (rest := []) rfl (lk_C_99 hw) rfl wi (by decide +kernel) hc (SubW.refl _) rfl (by show arity "(I)I" 1 = true; decide +kernel) (ok_c_findStart hw x1 _) rfl ⟨by decide, by decide, Nat.le_of_eq rfl, rfl, rfl, by decide, by decide⟩ (fun r1 hr => ?_)
  exact am_retI (by decide +kernel) hc (by decide) (by decide) (fun h W O => ⟨rfl, W, O⟩)
abbrev rm_c_objectSize : Room := { frames := 2, cells := 0, slots := 0, locals := 30 }
def c_objectSize (x1 : Int32) (σ : Sg) : Option (Int32 × Sg) :=
  (c_findStart x1 σ).bind fun r1 => if r1.1 = 0 then (some ((0 : Int32), r1.2)) else ((c_pageOf x1 r1.2).bind fun r2 => if r2.1 < 0 then (some ((0 : Int32), r2.2)) else (if inb r2.1 16 = true then (some (gi r2.2 3 (nx r2.1), r2.2)) else none))
set_option maxRecDepth 65536 in
set_option maxHeartbeats 4000000 in
theorem ok_c_objectSize (hw : WH a0 Z) (x1 : Int32) (σ : Sg) : ∀ x, c_objectSize x1 σ = some x → Con l Z "ConservativeBiY" fsC (⟨"ConservativeBiY", "objectSize", "(I)I"⟩ : MethodName) prog_1_method_34_code 4 (some .int) rm_c_objectSize wC [.ref 0, .int x1] σ (fI x).1 (fI x).2 := by
  refine am_con pnC ?_
  intro p e s m below meth c A n0 h0 hc
  have hT := tabC hw "objectSize"
  have hF := fsokC hw
  have wi := wiC hw
  unfold c_objectSize
  refine am_blk (pc' := 2) (Ls' := [.val (.ref 0), .val (.int x1), .unset, .unset]) (St' := [.int x1, .ref 0]) (σ' := σ) [.aload_n 0, .iload_n 1] (by decide +kernel) hc hT hF wi (by exact rfl) ?_
  refine am_callP_I (W0 := 0) (argsL := [.int x1]) (rest := []) rfl (lk_C_99 hw) rfl wi (by decide +kernel) hc (SubW.refl _) rfl (by show arity "(I)I" 1 = true; decide +kernel) (ok_c_findStart hw x1 _) rfl ⟨by decide, by decide, Nat.le_of_eq rfl, rfl, rfl, by decide, by decide⟩ (fun r1 hr => ?_)
  refine am_blk (pc' := 7) (Ls' := [.val (.ref 0), .val (.int x1), .val (.int r1.1), .unset]) (St' := [.int r1.1]) (σ' := r1.2) [.istore_n 2, .iload_n 2] (by decide +kernel) hc hT hF wi (by exact rfl) ?_
  refine am_if_ne (o := 5) (pc1 := 12) (by decide +kernel) hc (fun hq => ?_) (fun hq => ?_)
  · refine am_blk (pc' := 11) (Ls' := [.val (.ref 0), .val (.int x1), .val (.int r1.1), .unset]) (St' := [.int (0 : Int32)]) (σ' := r1.2) [.iconst 0] (by decide +kernel) hc hT hF wi (by exact rfl) ?_
    exact am_retI (by decide +kernel) hc (by decide) (by decide) (fun h W O => ⟨rfl, W, O⟩)
  · refine am_blk (pc' := 14) (Ls' := [.val (.ref 0), .val (.int x1), .val (.int r1.1), .unset]) (St' := [.int x1, .ref 0]) (σ' := r1.2) [.aload_n 0, .iload_n 1] (by decide +kernel) hc hT hF wi (by exact rfl) ?_
    refine am_callP_I (W0 := 0) (argsL := [.int x1]) (rest := []) rfl (lk_C_102 hw) rfl wi (by decide +kernel) hc (SubW.refl _) rfl (by show arity "(I)I" 1 = true; decide +kernel) (ok_c_pageOf hw x1 _) rfl ⟨by decide, by decide, Nat.le_of_eq rfl, rfl, rfl, by decide, by decide⟩ (fun r2 hr => ?_)
    refine am_blk (pc' := 19) (Ls' := [.val (.ref 0), .val (.int x1), .val (.int r1.1), .val (.int r2.1)]) (St' := [.int r2.1]) (σ' := r2.2) [.istore_n 3, .iload_n 3] (by decide +kernel) hc hT hF wi (by exact rfl) ?_
    refine am_if_ge (o := 5) (pc1 := 24) (by decide +kernel) hc (fun hq => ?_) (fun hq => ?_)
    · refine am_blk (pc' := 23) (Ls' := [.val (.ref 0), .val (.int x1), .val (.int r1.1), .val (.int r2.1)]) (St' := [.int (0 : Int32)]) (σ' := r2.2) [.iconst 0] (by decide +kernel) hc hT hF wi (by exact rfl) ?_
      exact am_retI (by decide +kernel) hc (by decide) (by decide) (fun h W O => ⟨rfl, W, O⟩)
    · refine am_blk (pc' := 29) (Ls' := [.val (.ref 0), .val (.int x1), .val (.int r1.1), .val (.int r2.1)]) (St' := [.int r2.1, .ref 3]) (σ' := r2.2) [.aload_n 0, .getfield 16, .iload_n 3] (by decide +kernel) hc hT hF wi (by exact rfl) ?_
      refine am_iaload (by decide +kernel) hc rfl (fun hb0 => ?_)
      exact am_retI (by decide +kernel) hc (by decide) (by decide) (fun h W O => ⟨rfl, W, O⟩)
abbrev rm_c_pageValid : Room := { frames := 0, cells := 0, slots := 0, locals := 0 }
def c_pageValid (x1 : Int32) (σ : Sg) : Option (Int32 × Sg) :=
  if x1 < 0 then (some ((0 : Int32), σ)) else (if x1 < (gi σ 0 10) then (if x1 < (16 : Int32) then (some ((1 : Int32), σ)) else (some ((0 : Int32), σ))) else (some ((0 : Int32), σ)))
set_option maxRecDepth 65536 in
set_option maxHeartbeats 4000000 in
theorem ok_c_pageValid (hw : WH a0 Z) (x1 : Int32) (σ : Sg) : ∀ x, c_pageValid x1 σ = some x → Con l Z "ConservativeBiY" fsC (⟨"ConservativeBiY", "pageValid", "(I)Z"⟩ : MethodName) prog_1_method_39_code 2 (some .boolean) rm_c_pageValid wC [.ref 0, .int x1] σ (fI x).1 (fI x).2 := by
  refine am_con pnC ?_
  intro p e s m below meth c A n0 h0 hc
  have hT := tabC hw "pageValid"
  have hF := fsokC hw
  have wi := wiC hw
  unfold c_pageValid
  refine am_blk (pc' := 1) (Ls' := [.val (.ref 0), .val (.int x1)]) (St' := [.int x1]) (σ' := σ) [.iload_n 1] (by decide +kernel) hc hT hF wi (by exact rfl) ?_
  refine am_if_lt (o := 21) (pc1 := 22) (by decide +kernel) hc (fun hq => ?_) (fun hq => ?_)
  · refine am_blk (pc' := 23) (Ls' := [.val (.ref 0), .val (.int x1)]) (St' := [.int (0 : Int32)]) (σ' := σ) [.iconst 0] (by decide +kernel) hc hT hF wi (by exact rfl) ?_
    exact am_retZ (by decide +kernel) hc (by decide) (by decide) (fun h W O => ⟨rfl, W, O⟩)
  · refine am_blk (pc' := 9) (Ls' := [.val (.ref 0), .val (.int x1)]) (St' := [.int (gi σ 0 10), .int x1]) (σ' := σ) [.iload_n 1, .aload_n 0, .getfield 41] (by decide +kernel) hc hT hF wi (by exact rfl) ?_
    refine am_icmp_ge (o := 13) (pc1 := 22) (by decide +kernel) hc (fun hq => ?_) (fun hq => ?_)
    · refine am_blk (pc' := 15) (Ls' := [.val (.ref 0), .val (.int x1)]) (St' := [.int (16 : Int32), .int x1]) (σ' := σ) [.iload_n 1, .bipush 16] (by decide +kernel) hc hT hF wi (by exact rfl) ?_
      refine am_icmp_ge (o := 7) (pc1 := 22) (by decide +kernel) hc (fun hq => ?_) (fun hq => ?_)
      · refine am_blk (pc' := 23) (Ls' := [.val (.ref 0), .val (.int x1)]) (St' := [.int (1 : Int32)]) (σ' := σ) [.iconst 1, .goto 4] (by decide +kernel) hc hT hF wi (by exact rfl) ?_
        exact am_retZ (by decide +kernel) hc (by decide) (by decide) (fun h W O => ⟨rfl, W, O⟩)
      · refine am_blk (pc' := 23) (Ls' := [.val (.ref 0), .val (.int x1)]) (St' := [.int (0 : Int32)]) (σ' := σ) [.iconst 0] (by decide +kernel) hc hT hF wi (by exact rfl) ?_
        exact am_retZ (by decide +kernel) hc (by decide) (by decide) (fun h W O => ⟨rfl, W, O⟩)
    · refine am_blk (pc' := 23) (Ls' := [.val (.ref 0), .val (.int x1)]) (St' := [.int (0 : Int32)]) (σ' := σ) [.iconst 0] (by decide +kernel) hc hT hF wi (by exact rfl) ?_
      exact am_retZ (by decide +kernel) hc (by decide) (by decide) (fun h W O => ⟨rfl, W, O⟩)
abbrev rm_c_pageClass : Room := { frames := 1, cells := 0, slots := 0, locals := 13 }
def c_pageClass (x1 : Int32) (σ : Sg) : Option (Int32 × Sg) :=
  (c_pageValid x1 σ).bind fun r1 => if r1.1 = 0 then (some ((-1 : Int32), r1.2)) else (if inb x1 16 = true then (some (gi r1.2 3 (nx x1), r1.2)) else none)
set_option maxRecDepth 65536 in
set_option maxHeartbeats 4000000 in
theorem ok_c_pageClass (hw : WH a0 Z) (x1 : Int32) (σ : Sg) : ∀ x, c_pageClass x1 σ = some x → Con l Z "ConservativeBiY" fsC (⟨"ConservativeBiY", "pageClass", "(I)I"⟩ : MethodName) prog_1_method_35_code 2 (some .int) rm_c_pageClass wC [.ref 0, .int x1] σ (fI x).1 (fI x).2 := by
  refine am_con pnC ?_
  intro p e s m below meth c A n0 h0 hc
  have hT := tabC hw "pageClass"
  have hF := fsokC hw
  have wi := wiC hw
  unfold c_pageClass
  refine am_blk (pc' := 2) (Ls' := [.val (.ref 0), .val (.int x1)]) (St' := [.int x1, .ref 0]) (σ' := σ) [.aload_n 0, .iload_n 1] (by decide +kernel) hc hT hF wi (by exact rfl) ?_
  refine am_callP_I (W0 := 0) (argsL := [.int x1]) (rest := []) rfl (lk_C_149 hw) rfl wi (by decide +kernel) hc (SubW.refl _) rfl (by show arity "(I)Z" 1 = true; decide +kernel) (ok_c_pageValid hw x1 _) rfl ⟨by decide, by decide, Nat.le_of_eq rfl, rfl, rfl, by decide, by decide⟩ (fun r1 hr => ?_)
  refine am_if_ne (o := 5) (pc1 := 10) (by decide +kernel) hc (fun hq => ?_) (fun hq => ?_)
  · refine am_blk (pc' := 9) (Ls' := [.val (.ref 0), .val (.int x1)]) (St' := [.int (-1 : Int32)]) (σ' := r1.2) [.iconst (-1)] (by decide +kernel) hc hT hF wi (by exact rfl) ?_
    exact am_retI (by decide +kernel) hc (by decide) (by decide) (fun h W O => ⟨rfl, W, O⟩)
  · refine am_blk (pc' := 15) (Ls' := [.val (.ref 0), .val (.int x1)]) (St' := [.int x1, .ref 3]) (σ' := r1.2) [.aload_n 0, .getfield 16, .iload_n 1] (by decide +kernel) hc hT hF wi (by exact rfl) ?_
    refine am_iaload (by decide +kernel) hc rfl (fun hb0 => ?_)
    exact am_retI (by decide +kernel) hc (by decide) (by decide) (fun h W O => ⟨rfl, W, O⟩)
abbrev rm_c_pageLiveCount : Room := { frames := 1, cells := 0, slots := 0, locals := 13 }
def c_pageLiveCount (x1 : Int32) (σ : Sg) : Option (Int32 × Sg) :=
  (c_pageValid x1 σ).bind fun r1 => if r1.1 = 0 then (some ((-1 : Int32), r1.2)) else (if inb x1 16 = true then (some (gi r1.2 6 (nx x1), r1.2)) else none)
set_option maxRecDepth 65536 in
set_option maxHeartbeats 4000000 in
theorem ok_c_pageLiveCount (hw : WH a0 Z) (x1 : Int32) (σ : Sg) : ∀ x, c_pageLiveCount x1 σ = some x → Con l Z "ConservativeBiY" fsC (⟨"ConservativeBiY", "pageLiveCount", "(I)I"⟩ : MethodName) prog_1_method_36_code 2 (some .int) rm_c_pageLiveCount wC [.ref 0, .int x1] σ (fI x).1 (fI x).2 := by
  refine am_con pnC ?_
  intro p e s m below meth c A n0 h0 hc
  have hT := tabC hw "pageLiveCount"
  have hF := fsokC hw
  have wi := wiC hw
  unfold c_pageLiveCount
  refine am_blk (pc' := 2) (Ls' := [.val (.ref 0), .val (.int x1)]) (St' := [.int x1, .ref 0]) (σ' := σ) [.aload_n 0, .iload_n 1] (by decide +kernel) hc hT hF wi (by exact rfl) ?_
  refine am_callP_I (W0 := 0) (argsL := [.int x1]) (rest := []) rfl (lk_C_149 hw) rfl wi (by decide +kernel) hc (SubW.refl _) rfl (by show arity "(I)Z" 1 = true; decide +kernel) (ok_c_pageValid hw x1 _) rfl ⟨by decide, by decide, Nat.le_of_eq rfl, rfl, rfl, by decide, by decide⟩ (fun r1 hr => ?_)
  refine am_if_ne (o := 5) (pc1 := 10) (by decide +kernel) hc (fun hq => ?_) (fun hq => ?_)
  · refine am_blk (pc' := 9) (Ls' := [.val (.ref 0), .val (.int x1)]) (St' := [.int (-1 : Int32)]) (σ' := r1.2) [.iconst (-1)] (by decide +kernel) hc hT hF wi (by exact rfl) ?_
    exact am_retI (by decide +kernel) hc (by decide) (by decide) (fun h W O => ⟨rfl, W, O⟩)
  · refine am_blk (pc' := 15) (Ls' := [.val (.ref 0), .val (.int x1)]) (St' := [.int x1, .ref 6]) (σ' := r1.2) [.aload_n 0, .getfield 25, .iload_n 1] (by decide +kernel) hc hT hF wi (by exact rfl) ?_
    refine am_iaload (by decide +kernel) hc rfl (fun hb0 => ?_)
    exact am_retI (by decide +kernel) hc (by decide) (by decide) (fun h W O => ⟨rfl, W, O⟩)
abbrev rm_c_liveObjects : Room := { frames := 0, cells := 0, slots := 0, locals := 0 }
def c_liveObjects (σ : Sg) : Option (Int32 × Sg) :=
  some (gi σ 0 15, σ)
set_option maxRecDepth 65536 in
set_option maxHeartbeats 4000000 in
theorem ok_c_liveObjects (hw : WH a0 Z) (σ : Sg) : ∀ x, c_liveObjects σ = some x → Con l Z "ConservativeBiY" fsC (⟨"ConservativeBiY", "liveObjects", "()I"⟩ : MethodName) prog_1_method_38_code 1 (some .int) rm_c_liveObjects wC [.ref 0] σ (fI x).1 (fI x).2 := by
  refine am_con pnC ?_
  intro p e s m below meth c A n0 h0 hc
  have hT := tabC hw "liveObjects"
  have hF := fsokC hw
  have wi := wiC hw
  unfold c_liveObjects
  refine am_blk (pc' := 4) (Ls' := [.val (.ref 0)]) (St' := [.int (gi σ 0 15)]) (σ' := σ) [.aload_n 0, .getfield 61] (by decide +kernel) hc hT hF wi (by exact rfl) ?_
  exact am_retI (by decide +kernel) hc (by decide) (by decide) (fun h W O => ⟨rfl, W, O⟩)
abbrev rm_q_law : Room := room_1
def q_law_298 (s0 : Int32) (s1 : Int32) (σ : Sg) : Option (Int32 × Sg) :=
  if s1 = s0 then (some ((1 : Int32), σ)) else (some ((0 : Int32), σ))
set_option maxRecDepth 65536 in
set_option maxHeartbeats 4000000 in
theorem okc_q_law_298 (hw : WH a0 Z) (hc : Cx p s m meth c Z "ConservativeBiYL2" code 10 (some .boolean) "law") (hw0 : Rd w0 10) (hn : n0 ≤ h0.size) (s0 : Int32) (s1 : Int32) (σ : Sg) : OkR p l e rm_q_law s m args below meth c Z "ConservativeBiY" fsC n0 h0 FL A (wF arrsC w0) 11 664 298 [.unset, .unset, .unset, .unset, .unset, .unset, .unset, .unset, .unset, .unset] [.int s0, .int s1] σ (q_law_298 s0 s1 σ) := by
  have hT := tabL hw "law"
  have hF := fsokC hw
  have wi := wiC hw
  unfold q_law_298
  refine am_icmp_ne (o := 7) (pc1 := 305) (by decide +kernel) hc (fun hq => ?_) (fun hq => ?_)
  · refine am_blk (pc' := 306) (Ls' := [.unset, .unset, .unset, .unset, .unset, .unset, .unset, .unset, .unset, .unset]) (St' := [.int (1 : Int32)]) (σ' := σ) [.iconst 1, .goto 4] (by decide +kernel) hc hT hF wi (by exact rfl) ?_
    exact am_retZ (by decide +kernel) hc (by decide) (by decide) (fun h W O => rfl)
  · refine am_blk (pc' := 306) (Ls' := [.unset, .unset, .unset, .unset, .unset, .unset, .unset, .unset, .unset, .unset]) (St' := [.int (0 : Int32)]) (σ' := σ) [.iconst 0] (by decide +kernel) hc hT hF wi (by exact rfl) ?_
    exact am_retZ (by decide +kernel) hc (by decide) (by decide) (fun h W O => rfl)
def q_law_297 (s0 : Int32) (σ : Sg) : Option (Int32 × Sg) :=
  q_law_298 (0 : Int32) s0 σ
set_option maxRecDepth 65536 in
set_option maxHeartbeats 4000000 in
theorem okc_q_law_297 (hw : WH a0 Z) (hc : Cx p s m meth c Z "ConservativeBiYL2" code 10 (some .boolean) "law") (hw0 : Rd w0 10) (hn : n0 ≤ h0.size) (s0 : Int32) (σ : Sg) : OkR p l e rm_q_law s m args below meth c Z "ConservativeBiY" fsC n0 h0 FL A (wF arrsC w0) 11 664 297 [.unset, .unset, .unset, .unset, .unset, .unset, .unset, .unset, .unset, .unset] [.int s0] σ (q_law_297 s0 σ) := by
  have hT := tabL hw "law"
  have hF := fsokC hw
  have wi := wiC hw
  unfold q_law_297
  refine am_blk (pc' := 298) (Ls' := [.unset, .unset, .unset, .unset, .unset, .unset, .unset, .unset, .unset, .unset]) (St' := [.int (0 : Int32), .int s0]) (σ' := σ) [.iconst 0] (by decide +kernel) hc hT hF wi (by exact rfl) ?_
  exact am_wk (Ls' := [.unset, .unset, .unset, .unset, .unset, .unset, .unset, .unset, .unset, .unset]) (by simp [wkL]) (okc_q_law_298 hw hc hw0 hn (0 : Int32) s0 σ)
def q_law_263 (x3 : Int32) (x4 : Int32) (x8 : Int32) (s0 : Int32) (s1 : Int32) (σ : Sg) : Option (Int32 × Sg) :=
  if s1 = s0 then ((c_load (4096 : Int32) σ).bind fun r1 => if x8 = 0 then (q_law_297 r1.1 r1.2) else (if x3 = (4096 : Int32) then (q_law_298 x4 r1.1 r1.2) else (q_law_297 r1.1 r1.2))) else (some ((0 : Int32), σ))
set_option maxRecDepth 65536 in
set_option maxHeartbeats 4000000 in
theorem okc_q_law_263 (hw : WH a0 Z) (hc : Cx p s m meth c Z "ConservativeBiYL2" code 10 (some .boolean) "law") (hw0 : Rd w0 10) (hn : n0 ≤ h0.size) (x3 : Int32) (x4 : Int32) (x8 : Int32) (s0 : Int32) (s1 : Int32) (σ : Sg) : OkR p l e rm_q_law s m args below meth c Z "ConservativeBiY" fsC n0 h0 FL A (wF arrsC w0) 11 664 263 [.unset, .unset, .unset, .val (.int x3), .val (.int x4), .val (.ref 0), .unset, .unset, .val (.int x8), .unset] [.int s0, .int s1] σ (q_law_263 x3 x4 x8 s0 s1 σ) := by
  have hT := tabL hw "law"
  have hF := fsokC hw
  have wi := wiC hw
  unfold q_law_263
  refine am_icmp_eq (o := 5) (pc1 := 268) (by decide +kernel) hc (fun hq => ?_) (fun hq => ?_)
  · refine am_blk (pc' := 273) (Ls' := [.unset, .unset, .unset, .val (.int x3), .val (.int x4), .val (.ref 0), .unset, .unset, .val (.int x8), .unset]) (St' := [.int (4096 : Int32), .ref 0]) (σ' := σ) [.aload 5, .sipush 4096] (by decide +kernel) hc hT hF wi (by exact rfl) ?_
    refine am_callV_I (W0 := 0) (argsL := [.int (4096 : Int32)]) (rest := []) rfl (lk_L_20 hw) rfl (by decide +kernel) hc (subF hw0) rfl (by show arity "(I)I" 1 = true; decide +kernel) (ok_c_load hw (4096 : Int32) _) rfl ⟨by decide, by decide, Nat.le_of_eq rfl, rfl, rfl, by decide, by decide⟩ (fun r1 hr => ?_)
    refine am_blk (pc' := 282) (Ls' := [.unset, .unset, .unset, .val (.int x3), .val (.int x4), .val (.ref 0), .unset, .unset, .val (.int x8), .val (.int r1.1)]) (St' := [.int x8, .int r1.1]) (σ' := r1.2) [.istore 9, .iload 9, .iload 8] (by decide +kernel) hc hT hF wi (by exact rfl) ?_
    refine am_if_eq (o := 15) (pc1 := 297) (by decide +kernel) hc (fun hq => ?_) (fun hq => ?_)
    · exact am_wk (Ls' := [.unset, .unset, .unset, .unset, .unset, .unset, .unset, .unset, .unset, .unset]) (by simp [wkL]) (okc_q_law_297 hw hc hw0 hn r1.1 r1.2)
    · refine am_blk (pc' := 289) (Ls' := [.unset, .unset, .unset, .val (.int x3), .val (.int x4), .val (.ref 0), .unset, .unset, .val (.int x8), .val (.int r1.1)]) (St' := [.int (4096 : Int32), .int x3, .int r1.1]) (σ' := r1.2) [.iload_n 3, .sipush 4096] (by decide +kernel) hc hT hF wi (by exact rfl) ?_
      refine am_icmp_ne (o := 8) (pc1 := 297) (by decide +kernel) hc (fun hq => ?_) (fun hq => ?_)
      · refine am_blk (pc' := 298) (Ls' := [.unset, .unset, .unset, .val (.int x3), .val (.int x4), .val (.ref 0), .unset, .unset, .val (.int x8), .val (.int r1.1)]) (St' := [.int x4, .int r1.1]) (σ' := r1.2) [.iload 4, .goto 4] (by decide +kernel) hc hT hF wi (by exact rfl) ?_
        exact am_wk (Ls' := [.unset, .unset, .unset, .unset, .unset, .unset, .unset, .unset, .unset, .unset]) (by simp [wkL]) (okc_q_law_298 hw hc hw0 hn x4 r1.1 r1.2)
      · exact am_wk (Ls' := [.unset, .unset, .unset, .unset, .unset, .unset, .unset, .unset, .unset, .unset]) (by simp [wkL]) (okc_q_law_297 hw hc hw0 hn r1.1 r1.2)
  · refine am_blk (pc' := 267) (Ls' := [.unset, .unset, .unset, .val (.int x3), .val (.int x4), .val (.ref 0), .unset, .unset, .val (.int x8), .unset]) (St' := [.int (0 : Int32)]) (σ' := σ) [.iconst 0] (by decide +kernel) hc hT hF wi (by exact rfl) ?_
    exact am_retZ (by decide +kernel) hc (by decide) (by decide) (fun h W O => rfl)
def q_law_243 (x3 : Int32) (x4 : Int32) (x6 : Int32) (x8 : Int32) (s0 : Int32) (s1 : Int32) (σ : Sg) : Option (Int32 × Sg) :=
  if s1 = s0 then ((c_liveObjects σ).bind fun r1 => if x6 = 0 then (q_law_263 x3 x4 x8 (0 : Int32) r1.1 r1.2) else (q_law_263 x3 x4 x8 (1 : Int32) r1.1 r1.2)) else (some ((0 : Int32), σ))
set_option maxRecDepth 65536 in
set_option maxHeartbeats 4000000 in
theorem okc_q_law_243 (hw : WH a0 Z) (hc : Cx p s m meth c Z "ConservativeBiYL2" code 10 (some .boolean) "law") (hw0 : Rd w0 10) (hn : n0 ≤ h0.size) (x3 : Int32) (x4 : Int32) (x6 : Int32) (x8 : Int32) (s0 : Int32) (s1 : Int32) (σ : Sg) : OkR p l e rm_q_law s m args below meth c Z "ConservativeBiY" fsC n0 h0 FL A (wF arrsC w0) 11 664 243 [.unset, .unset, .unset, .val (.int x3), .val (.int x4), .val (.ref 0), .val (.int x6), .unset, .val (.int x8), .unset] [.int s0, .int s1] σ (q_law_243 x3 x4 x6 x8 s0 s1 σ) := by
  have hT := tabL hw "law"
  have hF := fsokC hw
  have wi := wiC hw
  unfold q_law_243
  refine am_icmp_eq (o := 5) (pc1 := 248) (by decide +kernel) hc (fun hq => ?_) (fun hq => ?_)
  · refine am_blk (pc' := 250) (Ls' := [.unset, .unset, .unset, .val (.int x3), .val (.int x4), .val (.ref 0), .val (.int x6), .unset, .val (.int x8), .unset]) (St' := [.ref 0]) (σ' := σ) [.aload 5] (by decide +kernel) hc hT hF wi (by exact rfl) ?_
    refine am_callV_I (W0 := 0) (argsL := []) (rest := []) rfl (lk_L_35 hw) rfl (by decide +kernel) hc (subF hw0) rfl (by show arity "()I" 0 = true; decide +kernel) (ok_c_liveObjects hw _) rfl ⟨by decide, by decide, Nat.le_of_eq rfl, rfl, rfl, by decide, by decide⟩ (fun r1 hr => ?_)
    refine am_blk (pc' := 255) (Ls' := [.unset, .unset, .unset, .val (.int x3), .val (.int x4), .val (.ref 0), .val (.int x6), .unset, .val (.int x8), .unset]) (St' := [.int x6, .int r1.1]) (σ' := r1.2) [.iload 6] (by decide +kernel) hc hT hF wi (by exact rfl) ?_
    refine am_if_eq (o := 7) (pc1 := 262) (by decide +kernel) hc (fun hq => ?_) (fun hq => ?_)
    · refine am_blk (pc' := 263) (Ls' := [.unset, .unset, .unset, .val (.int x3), .val (.int x4), .val (.ref 0), .val (.int x6), .unset, .val (.int x8), .unset]) (St' := [.int (0 : Int32), .int r1.1]) (σ' := r1.2) [.iconst 0] (by decide +kernel) hc hT hF wi (by exact rfl) ?_
      exact am_wk (Ls' := [.unset, .unset, .unset, .val (.int x3), .val (.int x4), .val (.ref 0), .unset, .unset, .val (.int x8), .unset]) (by simp [wkL]) (okc_q_law_263 hw hc hw0 hn x3 x4 x8 (0 : Int32) r1.1 r1.2)
    · refine am_blk (pc' := 263) (Ls' := [.unset, .unset, .unset, .val (.int x3), .val (.int x4), .val (.ref 0), .val (.int x6), .unset, .val (.int x8), .unset]) (St' := [.int (1 : Int32), .int r1.1]) (σ' := r1.2) [.iconst 1, .goto 4] (by decide +kernel) hc hT hF wi (by exact rfl) ?_
      exact am_wk (Ls' := [.unset, .unset, .unset, .val (.int x3), .val (.int x4), .val (.ref 0), .unset, .unset, .val (.int x8), .unset]) (by simp [wkL]) (okc_q_law_263 hw hc hw0 hn x3 x4 x8 (1 : Int32) r1.1 r1.2)
  · refine am_blk (pc' := 247) (Ls' := [.unset, .unset, .unset, .val (.int x3), .val (.int x4), .val (.ref 0), .val (.int x6), .unset, .val (.int x8), .unset]) (St' := [.int (0 : Int32)]) (σ' := σ) [.iconst 0] (by decide +kernel) hc hT hF wi (by exact rfl) ?_
    exact am_retZ (by decide +kernel) hc (by decide) (by decide) (fun h W O => rfl)
def q_law_222 (x3 : Int32) (x4 : Int32) (x6 : Int32) (x8 : Int32) (s0 : Int32) (s1 : Int32) (σ : Sg) : Option (Int32 × Sg) :=
  if s1 = s0 then ((c_pageLiveCount (0 : Int32) σ).bind fun r1 => if x6 = 0 then (q_law_243 x3 x4 x6 x8 (0 : Int32) r1.1 r1.2) else (q_law_243 x3 x4 x6 x8 (1 : Int32) r1.1 r1.2)) else (some ((0 : Int32), σ))
set_option maxRecDepth 65536 in
set_option maxHeartbeats 4000000 in
theorem okc_q_law_222 (hw : WH a0 Z) (hc : Cx p s m meth c Z "ConservativeBiYL2" code 10 (some .boolean) "law") (hw0 : Rd w0 10) (hn : n0 ≤ h0.size) (x3 : Int32) (x4 : Int32) (x6 : Int32) (x8 : Int32) (s0 : Int32) (s1 : Int32) (σ : Sg) : OkR p l e rm_q_law s m args below meth c Z "ConservativeBiY" fsC n0 h0 FL A (wF arrsC w0) 11 664 222 [.unset, .unset, .unset, .val (.int x3), .val (.int x4), .val (.ref 0), .val (.int x6), .unset, .val (.int x8), .unset] [.int s0, .int s1] σ (q_law_222 x3 x4 x6 x8 s0 s1 σ) := by
  have hT := tabL hw "law"
  have hF := fsokC hw
  have wi := wiC hw
  unfold q_law_222
  refine am_icmp_eq (o := 5) (pc1 := 227) (by decide +kernel) hc (fun hq => ?_) (fun hq => ?_)
  · refine am_blk (pc' := 230) (Ls' := [.unset, .unset, .unset, .val (.int x3), .val (.int x4), .val (.ref 0), .val (.int x6), .unset, .val (.int x8), .unset]) (St' := [.int (0 : Int32), .ref 0]) (σ' := σ) [.aload 5, .iconst 0] (by decide +kernel) hc hT hF wi (by exact rfl) ?_
    refine am_callV_I (W0 := 0) (argsL := [.int (0 : Int32)]) (rest := []) rfl (lk_L_32 hw) rfl (by decide +kernel) hc (subF hw0) rfl (by show arity "(I)I" 1 = true; decide +kernel) (ok_c_pageLiveCount hw (0 : Int32) _) rfl ⟨by decide, by decide, Nat.le_of_eq rfl, rfl, rfl, by decide, by decide⟩ (fun r1 hr => ?_)
    refine am_blk (pc' := 235) (Ls' := [.unset, .unset, .unset, .val (.int x3), .val (.int x4), .val (.ref 0), .val (.int x6), .unset, .val (.int x8), .unset]) (St' := [.int x6, .int r1.1]) (σ' := r1.2) [.iload 6] (by decide +kernel) hc hT hF wi (by exact rfl) ?_
    refine am_if_eq (o := 7) (pc1 := 242) (by decide +kernel) hc (fun hq => ?_) (fun hq => ?_)
    · refine am_blk (pc' := 243) (Ls' := [.unset, .unset, .unset, .val (.int x3), .val (.int x4), .val (.ref 0), .val (.int x6), .unset, .val (.int x8), .unset]) (St' := [.int (0 : Int32), .int r1.1]) (σ' := r1.2) [.iconst 0] (by decide +kernel) hc hT hF wi (by exact rfl) ?_
      exact am_wk (Ls' := [.unset, .unset, .unset, .val (.int x3), .val (.int x4), .val (.ref 0), .val (.int x6), .unset, .val (.int x8), .unset]) (by simp [wkL]) (okc_q_law_243 hw hc hw0 hn x3 x4 x6 x8 (0 : Int32) r1.1 r1.2)
    · refine am_blk (pc' := 243) (Ls' := [.unset, .unset, .unset, .val (.int x3), .val (.int x4), .val (.ref 0), .val (.int x6), .unset, .val (.int x8), .unset]) (St' := [.int (1 : Int32), .int r1.1]) (σ' := r1.2) [.iconst 1, .goto 4] (by decide +kernel) hc hT hF wi (by exact rfl) ?_
      exact am_wk (Ls' := [.unset, .unset, .unset, .val (.int x3), .val (.int x4), .val (.ref 0), .val (.int x6), .unset, .val (.int x8), .unset]) (by simp [wkL]) (okc_q_law_243 hw hc hw0 hn x3 x4 x6 x8 (1 : Int32) r1.1 r1.2)
  · refine am_blk (pc' := 226) (Ls' := [.unset, .unset, .unset, .val (.int x3), .val (.int x4), .val (.ref 0), .val (.int x6), .unset, .val (.int x8), .unset]) (St' := [.int (0 : Int32)]) (σ' := σ) [.iconst 0] (by decide +kernel) hc hT hF wi (by exact rfl) ?_
    exact am_retZ (by decide +kernel) hc (by decide) (by decide) (fun h W O => rfl)
def q_law_200 (x3 : Int32) (x4 : Int32) (x6 : Int32) (x7 : Int32) (x8 : Int32) (s0 : Int32) (s1 : Int32) (σ : Sg) : Option (Int32 × Sg) :=
  if s1 = s0 then ((c_pageClass (0 : Int32) σ).bind fun r1 => if x6 = 0 then (q_law_222 x3 x4 x6 x8 (0 : Int32) r1.1 r1.2) else (q_law_222 x3 x4 x6 x8 x7 r1.1 r1.2)) else (some ((0 : Int32), σ))
set_option maxRecDepth 65536 in
set_option maxHeartbeats 4000000 in
theorem okc_q_law_200 (hw : WH a0 Z) (hc : Cx p s m meth c Z "ConservativeBiYL2" code 10 (some .boolean) "law") (hw0 : Rd w0 10) (hn : n0 ≤ h0.size) (x3 : Int32) (x4 : Int32) (x6 : Int32) (x7 : Int32) (x8 : Int32) (s0 : Int32) (s1 : Int32) (σ : Sg) : OkR p l e rm_q_law s m args below meth c Z "ConservativeBiY" fsC n0 h0 FL A (wF arrsC w0) 11 664 200 [.unset, .unset, .unset, .val (.int x3), .val (.int x4), .val (.ref 0), .val (.int x6), .val (.int x7), .val (.int x8), .unset] [.int s0, .int s1] σ (q_law_200 x3 x4 x6 x7 x8 s0 s1 σ) := by
  have hT := tabL hw "law"
  have hF := fsokC hw
  have wi := wiC hw
  unfold q_law_200
  refine am_icmp_eq (o := 5) (pc1 := 205) (by decide +kernel) hc (fun hq => ?_) (fun hq => ?_)
  · refine am_blk (pc' := 208) (Ls' := [.unset, .unset, .unset, .val (.int x3), .val (.int x4), .val (.ref 0), .val (.int x6), .val (.int x7), .val (.int x8), .unset]) (St' := [.int (0 : Int32), .ref 0]) (σ' := σ) [.aload 5, .iconst 0] (by decide +kernel) hc hT hF wi (by exact rfl) ?_
    refine am_callV_I (W0 := 0) (argsL := [.int (0 : Int32)]) (rest := []) rfl (lk_L_29 hw) rfl (by decide +kernel) hc (subF hw0) rfl (by show arity "(I)I" 1 = true; decide +kernel) (ok_c_pageClass hw (0 : Int32) _) rfl ⟨by decide, by decide, Nat.le_of_eq rfl, rfl, rfl, by decide, by decide⟩ (fun r1 hr => ?_)
    refine am_blk (pc' := 213) (Ls' := [.unset, .unset, .unset, .val (.int x3), .val (.int x4), .val (.ref 0), .val (.int x6), .val (.int x7), .val (.int x8), .unset]) (St' := [.int x6, .int r1.1]) (σ' := r1.2) [.iload 6] (by decide +kernel) hc hT hF wi (by exact rfl) ?_
    refine am_if_eq (o := 8) (pc1 := 221) (by decide +kernel) hc (fun hq => ?_) (fun hq => ?_)
    · refine am_blk (pc' := 222) (Ls' := [.unset, .unset, .unset, .val (.int x3), .val (.int x4), .val (.ref 0), .val (.int x6), .val (.int x7), .val (.int x8), .unset]) (St' := [.int (0 : Int32), .int r1.1]) (σ' := r1.2) [.iconst 0] (by decide +kernel) hc hT hF wi (by exact rfl) ?_
      exact am_wk (Ls' := [.unset, .unset, .unset, .val (.int x3), .val (.int x4), .val (.ref 0), .val (.int x6), .unset, .val (.int x8), .unset]) (by simp [wkL]) (okc_q_law_222 hw hc hw0 hn x3 x4 x6 x8 (0 : Int32) r1.1 r1.2)
    · refine am_blk (pc' := 222) (Ls' := [.unset, .unset, .unset, .val (.int x3), .val (.int x4), .val (.ref 0), .val (.int x6), .val (.int x7), .val (.int x8), .unset]) (St' := [.int x7, .int r1.1]) (σ' := r1.2) [.iload 7, .goto 4] (by decide +kernel) hc hT hF wi (by exact rfl) ?_
      exact am_wk (Ls' := [.unset, .unset, .unset, .val (.int x3), .val (.int x4), .val (.ref 0), .val (.int x6), .unset, .val (.int x8), .unset]) (by simp [wkL]) (okc_q_law_222 hw hc hw0 hn x3 x4 x6 x8 x7 r1.1 r1.2)
  · refine am_blk (pc' := 204) (Ls' := [.unset, .unset, .unset, .val (.int x3), .val (.int x4), .val (.ref 0), .val (.int x6), .val (.int x7), .val (.int x8), .unset]) (St' := [.int (0 : Int32)]) (σ' := σ) [.iconst 0] (by decide +kernel) hc hT hF wi (by exact rfl) ?_
    exact am_retZ (by decide +kernel) hc (by decide) (by decide) (fun h W O => rfl)
def q_law_178 (x3 : Int32) (x4 : Int32) (x6 : Int32) (x7 : Int32) (x8 : Int32) (s0 : Int32) (s1 : Int32) (σ : Sg) : Option (Int32 × Sg) :=
  if s1 = s0 then ((c_objectSize x3 σ).bind fun r1 => if x8 = 0 then (q_law_200 x3 x4 x6 x7 x8 (0 : Int32) r1.1 r1.2) else (q_law_200 x3 x4 x6 x7 x8 x7 r1.1 r1.2)) else (some ((0 : Int32), σ))
set_option maxRecDepth 65536 in
set_option maxHeartbeats 4000000 in
theorem okc_q_law_178 (hw : WH a0 Z) (hc : Cx p s m meth c Z "ConservativeBiYL2" code 10 (some .boolean) "law") (hw0 : Rd w0 10) (hn : n0 ≤ h0.size) (x3 : Int32) (x4 : Int32) (x6 : Int32) (x7 : Int32) (x8 : Int32) (s0 : Int32) (s1 : Int32) (σ : Sg) : OkR p l e rm_q_law s m args below meth c Z "ConservativeBiY" fsC n0 h0 FL A (wF arrsC w0) 11 664 178 [.unset, .unset, .unset, .val (.int x3), .val (.int x4), .val (.ref 0), .val (.int x6), .val (.int x7), .val (.int x8), .unset] [.int s0, .int s1] σ (q_law_178 x3 x4 x6 x7 x8 s0 s1 σ) := by
  have hT := tabL hw "law"
  have hF := fsokC hw
  have wi := wiC hw
  unfold q_law_178
  refine am_icmp_eq (o := 5) (pc1 := 183) (by decide +kernel) hc (fun hq => ?_) (fun hq => ?_)
  · refine am_blk (pc' := 186) (Ls' := [.unset, .unset, .unset, .val (.int x3), .val (.int x4), .val (.ref 0), .val (.int x6), .val (.int x7), .val (.int x8), .unset]) (St' := [.int x3, .ref 0]) (σ' := σ) [.aload 5, .iload_n 3] (by decide +kernel) hc hT hF wi (by exact rfl) ?_
    refine am_callV_I (W0 := 0) (argsL := [.int x3]) (rest := []) rfl (lk_L_26 hw) rfl (by decide +kernel) hc (subF hw0) rfl (by show arity "(I)I" 1 = true; decide +kernel) (ok_c_objectSize hw x3 _) rfl ⟨by decide, by decide, Nat.le_of_eq rfl, rfl, rfl, by decide, by decide⟩ (fun r1 hr => ?_)
    refine am_blk (pc' := 191) (Ls' := [.unset, .unset, .unset, .val (.int x3), .val (.int x4), .val (.ref 0), .val (.int x6), .val (.int x7), .val (.int x8), .unset]) (St' := [.int x8, .int r1.1]) (σ' := r1.2) [.iload 8] (by decide +kernel) hc hT hF wi (by exact rfl) ?_
    refine am_if_eq (o := 8) (pc1 := 199) (by decide +kernel) hc (fun hq => ?_) (fun hq => ?_)
    · refine am_blk (pc' := 200) (Ls' := [.unset, .unset, .unset, .val (.int x3), .val (.int x4), .val (.ref 0), .val (.int x6), .val (.int x7), .val (.int x8), .unset]) (St' := [.int (0 : Int32), .int r1.1]) (σ' := r1.2) [.iconst 0] (by decide +kernel) hc hT hF wi (by exact rfl) ?_
      exact am_wk (Ls' := [.unset, .unset, .unset, .val (.int x3), .val (.int x4), .val (.ref 0), .val (.int x6), .val (.int x7), .val (.int x8), .unset]) (by simp [wkL]) (okc_q_law_200 hw hc hw0 hn x3 x4 x6 x7 x8 (0 : Int32) r1.1 r1.2)
    · refine am_blk (pc' := 200) (Ls' := [.unset, .unset, .unset, .val (.int x3), .val (.int x4), .val (.ref 0), .val (.int x6), .val (.int x7), .val (.int x8), .unset]) (St' := [.int x7, .int r1.1]) (σ' := r1.2) [.iload 7, .goto 4] (by decide +kernel) hc hT hF wi (by exact rfl) ?_
      exact am_wk (Ls' := [.unset, .unset, .unset, .val (.int x3), .val (.int x4), .val (.ref 0), .val (.int x6), .val (.int x7), .val (.int x8), .unset]) (by simp [wkL]) (okc_q_law_200 hw hc hw0 hn x3 x4 x6 x7 x8 x7 r1.1 r1.2)
  · refine am_blk (pc' := 182) (Ls' := [.unset, .unset, .unset, .val (.int x3), .val (.int x4), .val (.ref 0), .val (.int x6), .val (.int x7), .val (.int x8), .unset]) (St' := [.int (0 : Int32)]) (σ' := σ) [.iconst 0] (by decide +kernel) hc hT hF wi (by exact rfl) ?_
    exact am_retZ (by decide +kernel) hc (by decide) (by decide) (fun h W O => rfl)
def q_law_155 (x3 : Int32) (x4 : Int32) (x6 : Int32) (x7 : Int32) (x8 : Int32) (s0 : Int32) (s1 : Int32) (σ : Sg) : Option (Int32 × Sg) :=
  if s1 = s0 then ((c_objectStart x3 σ).bind fun r1 => if x8 = 0 then (q_law_178 x3 x4 x6 x7 x8 (0 : Int32) r1.1 r1.2) else (q_law_178 x3 x4 x6 x7 x8 (4096 : Int32) r1.1 r1.2)) else (some ((0 : Int32), σ))
set_option maxRecDepth 65536 in
set_option maxHeartbeats 4000000 in
theorem okc_q_law_155 (hw : WH a0 Z) (hc : Cx p s m meth c Z "ConservativeBiYL2" code 10 (some .boolean) "law") (hw0 : Rd w0 10) (hn : n0 ≤ h0.size) (x3 : Int32) (x4 : Int32) (x6 : Int32) (x7 : Int32) (x8 : Int32) (s0 : Int32) (s1 : Int32) (σ : Sg) : OkR p l e rm_q_law s m args below meth c Z "ConservativeBiY" fsC n0 h0 FL A (wF arrsC w0) 11 664 155 [.unset, .unset, .unset, .val (.int x3), .val (.int x4), .val (.ref 0), .val (.int x6), .val (.int x7), .val (.int x8), .unset] [.int s0, .int s1] σ (q_law_155 x3 x4 x6 x7 x8 s0 s1 σ) := by
  have hT := tabL hw "law"
  have hF := fsokC hw
  have wi := wiC hw
  unfold q_law_155
  refine am_icmp_eq (o := 5) (pc1 := 160) (by decide +kernel) hc (fun hq => ?_) (fun hq => ?_)
  · refine am_blk (pc' := 163) (Ls' := [.unset, .unset, .unset, .val (.int x3), .val (.int x4), .val (.ref 0), .val (.int x6), .val (.int x7), .val (.int x8), .unset]) (St' := [.int x3, .ref 0]) (σ' := σ) [.aload 5, .iload_n 3] (by decide +kernel) hc hT hF wi (by exact rfl) ?_
    refine am_callV_I (W0 := 0) (argsL := [.int x3]) (rest := []) rfl (lk_L_23 hw) rfl (by decide +kernel) hc (subF hw0) rfl (by show arity "(I)I" 1 = true; decide +kernel) (ok_c_objectStart hw x3 _) rfl ⟨by decide, by decide, Nat.le_of_eq rfl, rfl, rfl, by decide, by decide⟩ (fun r1 hr => ?_)
    refine am_blk (pc' := 168) (Ls' := [.unset, .unset, .unset, .val (.int x3), .val (.int x4), .val (.ref 0), .val (.int x6), .val (.int x7), .val (.int x8), .unset]) (St' := [.int x8, .int r1.1]) (σ' := r1.2) [.iload 8] (by decide +kernel) hc hT hF wi (by exact rfl) ?_
    refine am_if_eq (o := 9) (pc1 := 177) (by decide +kernel) hc (fun hq => ?_) (fun hq => ?_)
    · refine am_blk (pc' := 178) (Ls' := [.unset, .unset, .unset, .val (.int x3), .val (.int x4), .val (.ref 0), .val (.int x6), .val (.int x7), .val (.int x8), .unset]) (St' := [.int (0 : Int32), .int r1.1]) (σ' := r1.2) [.iconst 0] (by decide +kernel) hc hT hF wi (by exact rfl) ?_
      exact am_wk (Ls' := [.unset, .unset, .unset, .val (.int x3), .val (.int x4), .val (.ref 0), .val (.int x6), .val (.int x7), .val (.int x8), .unset]) (by simp [wkL]) (okc_q_law_178 hw hc hw0 hn x3 x4 x6 x7 x8 (0 : Int32) r1.1 r1.2)
    · refine am_blk (pc' := 178) (Ls' := [.unset, .unset, .unset, .val (.int x3), .val (.int x4), .val (.ref 0), .val (.int x6), .val (.int x7), .val (.int x8), .unset]) (St' := [.int (4096 : Int32), .int r1.1]) (σ' := r1.2) [.sipush 4096, .goto 4] (by decide +kernel) hc hT hF wi (by exact rfl) ?_
      exact am_wk (Ls' := [.unset, .unset, .unset, .val (.int x3), .val (.int x4), .val (.ref 0), .val (.int x6), .val (.int x7), .val (.int x8), .unset]) (by simp [wkL]) (okc_q_law_178 hw hc hw0 hn x3 x4 x6 x7 x8 (4096 : Int32) r1.1 r1.2)
  · refine am_blk (pc' := 159) (Ls' := [.unset, .unset, .unset, .val (.int x3), .val (.int x4), .val (.ref 0), .val (.int x6), .val (.int x7), .val (.int x8), .unset]) (St' := [.int (0 : Int32)]) (σ' := σ) [.iconst 0] (by decide +kernel) hc hT hF wi (by exact rfl) ?_
    exact am_retZ (by decide +kernel) hc (by decide) (by decide) (fun h W O => rfl)
def q_law_121 (x3 : Int32) (x4 : Int32) (x6 : Int32) (x7 : Int32) (s0 : Int32) (σ : Sg) : Option (Int32 × Sg) :=
  (c_store x3 x4 σ).bind fun r1 => if r1.1 = s0 then ((c_load x3 r1.2).bind fun r2 => if s0 = 0 then (q_law_155 x3 x4 x6 x7 s0 (0 : Int32) r2.1 r2.2) else (q_law_155 x3 x4 x6 x7 s0 x4 r2.1 r2.2)) else (some ((0 : Int32), r1.2))
set_option maxRecDepth 65536 in
set_option maxHeartbeats 4000000 in
theorem okc_q_law_121 (hw : WH a0 Z) (hc : Cx p s m meth c Z "ConservativeBiYL2" code 10 (some .boolean) "law") (hw0 : Rd w0 10) (hn : n0 ≤ h0.size) (x3 : Int32) (x4 : Int32) (x6 : Int32) (x7 : Int32) (s0 : Int32) (σ : Sg) : OkR p l e rm_q_law s m args below meth c Z "ConservativeBiY" fsC n0 h0 FL A (wF arrsC w0) 11 664 121 [.unset, .unset, .unset, .val (.int x3), .val (.int x4), .val (.ref 0), .val (.int x6), .val (.int x7), .unset, .unset] [.int s0] σ (q_law_121 x3 x4 x6 x7 s0 σ) := by
  have hT := tabL hw "law"
  have hF := fsokC hw
  have wi := wiC hw
  unfold q_law_121
  refine am_blk (pc' := 128) (Ls' := [.unset, .unset, .unset, .val (.int x3), .val (.int x4), .val (.ref 0), .val (.int x6), .val (.int x7), .val (.int s0), .unset]) (St' := [.int x4, .int x3, .ref 0]) (σ' := σ) [.istore 8, .aload 5, .iload_n 3, .iload 4] (by decide +kernel) hc hT hF wi (by exact rfl) ?_
  refine am_callV_I (W0 := 0) (argsL := [.int x3, .int x4]) (rest := []) rfl (lk_L_16 hw) rfl (by decide +kernel) hc (subF hw0) rfl (by show arity "(II)Z" 2 = true; decide +kernel) (ok_c_store hw x3 x4 _) rfl ⟨by decide, by decide, Nat.le_of_eq rfl, rfl, rfl, by decide, by decide⟩ (fun r1 hr => ?_)
  refine am_blk (pc' := 133) (Ls' := [.unset, .unset, .unset, .val (.int x3), .val (.int x4), .val (.ref 0), .val (.int x6), .val (.int x7), .val (.int s0), .unset]) (St' := [.int s0, .int r1.1]) (σ' := r1.2) [.iload 8] (by decide +kernel) hc hT hF wi (by exact rfl) ?_
  refine am_icmp_eq (o := 5) (pc1 := 138) (by decide +kernel) hc (fun hq => ?_) (fun hq => ?_)
  · refine am_blk (pc' := 141) (Ls' := [.unset, .unset, .unset, .val (.int x3), .val (.int x4), .val (.ref 0), .val (.int x6), .val (.int x7), .val (.int s0), .unset]) (St' := [.int x3, .ref 0]) (σ' := r1.2) [.aload 5, .iload_n 3] (by decide +kernel) hc hT hF wi (by exact rfl) ?_
    refine am_callV_I (W0 := 0) (argsL := [.int x3]) (rest := []) rfl (lk_L_20 hw) rfl (by decide +kernel) hc (subF hw0) rfl (by show arity "(I)I" 1 = true; decide +kernel) (ok_c_load hw x3 _) rfl ⟨by decide, by decide, Nat.le_of_eq rfl, rfl, rfl, by decide, by decide⟩ (fun r2 hr => ?_)
    refine am_blk (pc' := 146) (Ls' := [.unset, .unset, .unset, .val (.int x3), .val (.int x4), .val (.ref 0), .val (.int x6), .val (.int x7), .val (.int s0), .unset]) (St' := [.int s0, .int r2.1]) (σ' := r2.2) [.iload 8] (by decide +kernel) hc hT hF wi (by exact rfl) ?_
    refine am_if_eq (o := 8) (pc1 := 154) (by decide +kernel) hc (fun hq => ?_) (fun hq => ?_)
    · refine am_blk (pc' := 155) (Ls' := [.unset, .unset, .unset, .val (.int x3), .val (.int x4), .val (.ref 0), .val (.int x6), .val (.int x7), .val (.int s0), .unset]) (St' := [.int (0 : Int32), .int r2.1]) (σ' := r2.2) [.iconst 0] (by decide +kernel) hc hT hF wi (by exact rfl) ?_
      exact am_wk (Ls' := [.unset, .unset, .unset, .val (.int x3), .val (.int x4), .val (.ref 0), .val (.int x6), .val (.int x7), .val (.int s0), .unset]) (by simp [wkL]) (okc_q_law_155 hw hc hw0 hn x3 x4 x6 x7 s0 (0 : Int32) r2.1 r2.2)
    · refine am_blk (pc' := 155) (Ls' := [.unset, .unset, .unset, .val (.int x3), .val (.int x4), .val (.ref 0), .val (.int x6), .val (.int x7), .val (.int s0), .unset]) (St' := [.int x4, .int r2.1]) (σ' := r2.2) [.iload 4, .goto 4] (by decide +kernel) hc hT hF wi (by exact rfl) ?_
      exact am_wk (Ls' := [.unset, .unset, .unset, .val (.int x3), .val (.int x4), .val (.ref 0), .val (.int x6), .val (.int x7), .val (.int s0), .unset]) (by simp [wkL]) (okc_q_law_155 hw hc hw0 hn x3 x4 x6 x7 s0 x4 r2.1 r2.2)
  · refine am_blk (pc' := 137) (Ls' := [.unset, .unset, .unset, .val (.int x3), .val (.int x4), .val (.ref 0), .val (.int x6), .val (.int x7), .val (.int s0), .unset]) (St' := [.int (0 : Int32)]) (σ' := r1.2) [.iconst 0] (by decide +kernel) hc hT hF wi (by exact rfl) ?_
    exact am_retZ (by decide +kernel) hc (by decide) (by decide) (fun h W O => rfl)
def q_law_120 (x3 : Int32) (x4 : Int32) (x6 : Int32) (x7 : Int32) (σ : Sg) : Option (Int32 × Sg) :=
  q_law_121 x3 x4 x6 x7 (0 : Int32) σ
set_option maxRecDepth 65536 in
set_option maxHeartbeats 4000000 in
theorem okc_q_law_120 (hw : WH a0 Z) (hc : Cx p s m meth c Z "ConservativeBiYL2" code 10 (some .boolean) "law") (hw0 : Rd w0 10) (hn : n0 ≤ h0.size) (x3 : Int32) (x4 : Int32) (x6 : Int32) (x7 : Int32) (σ : Sg) : OkR p l e rm_q_law s m args below meth c Z "ConservativeBiY" fsC n0 h0 FL A (wF arrsC w0) 11 664 120 [.unset, .unset, .unset, .val (.int x3), .val (.int x4), .val (.ref 0), .val (.int x6), .val (.int x7), .unset, .unset] [] σ (q_law_120 x3 x4 x6 x7 σ) := by
  have hT := tabL hw "law"
  have hF := fsokC hw
  have wi := wiC hw
  unfold q_law_120
  refine am_blk (pc' := 121) (Ls' := [.unset, .unset, .unset, .val (.int x3), .val (.int x4), .val (.ref 0), .val (.int x6), .val (.int x7), .unset, .unset]) (St' := [.int (0 : Int32)]) (σ' := σ) [.iconst 0] (by decide +kernel) hc hT hF wi (by exact rfl) ?_
  exact am_wk (Ls' := [.unset, .unset, .unset, .val (.int x3), .val (.int x4), .val (.ref 0), .val (.int x6), .val (.int x7), .unset, .unset]) (by simp [wkL]) (okc_q_law_121 hw hc hw0 hn x3 x4 x6 x7 (0 : Int32) σ)
def q_law_89 (x3 : Int32) (x4 : Int32) (x6 : Int32) (x7 : Int32) (s0 : Int32) (s1 : Int32) (σ : Sg) : Option (Int32 × Sg) :=
  if s1 = s0 then (if x6 = 0 then (q_law_120 x3 x4 x6 x7 σ) else (if x3 < (4096 : Int32) then (q_law_120 x3 x4 x6 x7 σ) else (if x3 < ((4096 : Int32) + x7) then (q_law_121 x3 x4 x6 x7 (1 : Int32) σ) else (q_law_120 x3 x4 x6 x7 σ)))) else (some ((0 : Int32), σ))
set_option maxRecDepth 65536 in
set_option maxHeartbeats 4000000 in
theorem okc_q_law_89 (hw : WH a0 Z) (hc : Cx p s m meth c Z "ConservativeBiYL2" code 10 (some .boolean) "law") (hw0 : Rd w0 10) (hn : n0 ≤ h0.size) (x3 : Int32) (x4 : Int32) (x6 : Int32) (x7 : Int32) (s0 : Int32) (s1 : Int32) (σ : Sg) : OkR p l e rm_q_law s m args below meth c Z "ConservativeBiY" fsC n0 h0 FL A (wF arrsC w0) 11 664 89 [.unset, .unset, .unset, .val (.int x3), .val (.int x4), .val (.ref 0), .val (.int x6), .val (.int x7), .unset, .unset] [.int s0, .int s1] σ (q_law_89 x3 x4 x6 x7 s0 s1 σ) := by
  have hT := tabL hw "law"
  have hF := fsokC hw
  have wi := wiC hw
  unfold q_law_89
  refine am_icmp_eq (o := 5) (pc1 := 94) (by decide +kernel) hc (fun hq => ?_) (fun hq => ?_)
  · refine am_blk (pc' := 96) (Ls' := [.unset, .unset, .unset, .val (.int x3), .val (.int x4), .val (.ref 0), .val (.int x6), .val (.int x7), .unset, .unset]) (St' := [.int x6]) (σ' := σ) [.iload 6] (by decide +kernel) hc hT hF wi (by exact rfl) ?_
    refine am_if_eq (o := 24) (pc1 := 120) (by decide +kernel) hc (fun hq => ?_) (fun hq => ?_)
    · exact am_wk (Ls' := [.unset, .unset, .unset, .val (.int x3), .val (.int x4), .val (.ref 0), .val (.int x6), .val (.int x7), .unset, .unset]) (by simp [wkL]) (okc_q_law_120 hw hc hw0 hn x3 x4 x6 x7 σ)
    · refine am_blk (pc' := 103) (Ls' := [.unset, .unset, .unset, .val (.int x3), .val (.int x4), .val (.ref 0), .val (.int x6), .val (.int x7), .unset, .unset]) (St' := [.int (4096 : Int32), .int x3]) (σ' := σ) [.iload_n 3, .sipush 4096] (by decide +kernel) hc hT hF wi (by exact rfl) ?_
      refine am_icmp_lt (o := 17) (pc1 := 120) (by decide +kernel) hc (fun hq => ?_) (fun hq => ?_)
      · exact am_wk (Ls' := [.unset, .unset, .unset, .val (.int x3), .val (.int x4), .val (.ref 0), .val (.int x6), .val (.int x7), .unset, .unset]) (by simp [wkL]) (okc_q_law_120 hw hc hw0 hn x3 x4 x6 x7 σ)
      · refine am_blk (pc' := 113) (Ls' := [.unset, .unset, .unset, .val (.int x3), .val (.int x4), .val (.ref 0), .val (.int x6), .val (.int x7), .unset, .unset]) (St' := [.int ((4096 : Int32) + x7), .int x3]) (σ' := σ) [.iload_n 3, .sipush 4096, .iload 7, .iadd] (by decide +kernel) hc hT hF wi (by exact rfl) ?_
        refine am_icmp_ge (o := 7) (pc1 := 120) (by decide +kernel) hc (fun hq => ?_) (fun hq => ?_)
        · refine am_blk (pc' := 121) (Ls' := [.unset, .unset, .unset, .val (.int x3), .val (.int x4), .val (.ref 0), .val (.int x6), .val (.int x7), .unset, .unset]) (St' := [.int (1 : Int32)]) (σ' := σ) [.iconst 1, .goto 4] (by decide +kernel) hc hT hF wi (by exact rfl) ?_
          exact am_wk (Ls' := [.unset, .unset, .unset, .val (.int x3), .val (.int x4), .val (.ref 0), .val (.int x6), .val (.int x7), .unset, .unset]) (by simp [wkL]) (okc_q_law_121 hw hc hw0 hn x3 x4 x6 x7 (1 : Int32) σ)
        · exact am_wk (Ls' := [.unset, .unset, .unset, .val (.int x3), .val (.int x4), .val (.ref 0), .val (.int x6), .val (.int x7), .unset, .unset]) (by simp [wkL]) (okc_q_law_120 hw hc hw0 hn x3 x4 x6 x7 σ)
  · refine am_blk (pc' := 93) (Ls' := [.unset, .unset, .unset, .val (.int x3), .val (.int x4), .val (.ref 0), .val (.int x6), .val (.int x7), .unset, .unset]) (St' := [.int (0 : Int32)]) (σ' := σ) [.iconst 0] (by decide +kernel) hc hT hF wi (by exact rfl) ?_
    exact am_retZ (by decide +kernel) hc (by decide) (by decide) (fun h W O => rfl)
def q_law_69 (x2 : Int32) (x3 : Int32) (x4 : Int32) (x6 : Int32) (s0 : Int32) (σ : Sg) : Option (Int32 × Sg) :=
  (c_alloc x2 σ).bind fun r1 => if x6 = 0 then (q_law_89 x3 x4 x6 s0 (0 : Int32) r1.1 r1.2) else (q_law_89 x3 x4 x6 s0 (4096 : Int32) r1.1 r1.2)
set_option maxRecDepth 65536 in
set_option maxHeartbeats 4000000 in
theorem okc_q_law_69 (hw : WH a0 Z) (hc : Cx p s m meth c Z "ConservativeBiYL2" code 10 (some .boolean) "law") (hw0 : Rd w0 10) (hn : n0 ≤ h0.size) (x2 : Int32) (x3 : Int32) (x4 : Int32) (x6 : Int32) (s0 : Int32) (σ : Sg) : OkR p l e rm_q_law s m args below meth c Z "ConservativeBiY" fsC n0 h0 FL A (wF arrsC w0) 11 664 69 [.unset, .unset, .val (.int x2), .val (.int x3), .val (.int x4), .val (.ref 0), .val (.int x6), .unset, .unset, .unset] [.int s0] σ (q_law_69 x2 x3 x4 x6 s0 σ) := by
  have hT := tabL hw "law"
  have hF := fsokC hw
  have wi := wiC hw
  unfold q_law_69
  refine am_blk (pc' := 74) (Ls' := [.unset, .unset, .val (.int x2), .val (.int x3), .val (.int x4), .val (.ref 0), .val (.int x6), .val (.int s0), .unset, .unset]) (St' := [.int x2, .ref 0]) (σ' := σ) [.istore 7, .aload 5, .iload_n 2] (by decide +kernel) hc hT hF wi (by exact rfl) ?_
  refine am_callV_I (W0 := 0) (argsL := [.int x2]) (rest := []) rfl (lk_L_12 hw) rfl (by decide +kernel) hc (subF hw0) rfl (by show arity "(I)I" 1 = true; decide +kernel) (ok_c_alloc hw x2 _) rfl ⟨by decide, by decide, Nat.le_of_eq rfl, rfl, rfl, by decide, by decide⟩ (fun r1 hr => ?_)
  refine am_blk (pc' := 79) (Ls' := [.unset, .unset, .val (.int x2), .val (.int x3), .val (.int x4), .val (.ref 0), .val (.int x6), .val (.int s0), .unset, .unset]) (St' := [.int x6, .int r1.1]) (σ' := r1.2) [.iload 6] (by decide +kernel) hc hT hF wi (by exact rfl) ?_
  refine am_if_eq (o := 9) (pc1 := 88) (by decide +kernel) hc (fun hq => ?_) (fun hq => ?_)
  · refine am_blk (pc' := 89) (Ls' := [.unset, .unset, .val (.int x2), .val (.int x3), .val (.int x4), .val (.ref 0), .val (.int x6), .val (.int s0), .unset, .unset]) (St' := [.int (0 : Int32), .int r1.1]) (σ' := r1.2) [.iconst 0] (by decide +kernel) hc hT hF wi (by exact rfl) ?_
    exact am_wk (Ls' := [.unset, .unset, .unset, .val (.int x3), .val (.int x4), .val (.ref 0), .val (.int x6), .val (.int s0), .unset, .unset]) (by simp [wkL]) (okc_q_law_89 hw hc hw0 hn x3 x4 x6 s0 (0 : Int32) r1.1 r1.2)
  · refine am_blk (pc' := 89) (Ls' := [.unset, .unset, .val (.int x2), .val (.int x3), .val (.int x4), .val (.ref 0), .val (.int x6), .val (.int s0), .unset, .unset]) (St' := [.int (4096 : Int32), .int r1.1]) (σ' := r1.2) [.sipush 4096, .goto 4] (by decide +kernel) hc hT hF wi (by exact rfl) ?_
    exact am_wk (Ls' := [.unset, .unset, .unset, .val (.int x3), .val (.int x4), .val (.ref 0), .val (.int x6), .val (.int s0), .unset, .unset]) (by simp [wkL]) (okc_q_law_89 hw hc hw0 hn x3 x4 x6 s0 (4096 : Int32) r1.1 r1.2)
def q_law_27 (x2 : Int32) (x3 : Int32) (x4 : Int32) (s0 : Int32) (σ : Sg) : Option (Int32 × Sg) :=
  if (1 : Int32) < x2 then (if (2 : Int32) < x2 then (if (4 : Int32) < x2 then (if (8 : Int32) < x2 then (q_law_69 x2 x3 x4 s0 (16 : Int32) σ) else (q_law_69 x2 x3 x4 s0 (8 : Int32) σ)) else (q_law_69 x2 x3 x4 s0 (4 : Int32) σ)) else (q_law_69 x2 x3 x4 s0 (2 : Int32) σ)) else (q_law_69 x2 x3 x4 s0 (1 : Int32) σ)
set_option maxRecDepth 65536 in
set_option maxHeartbeats 4000000 in
theorem okc_q_law_27 (hw : WH a0 Z) (hc : Cx p s m meth c Z "ConservativeBiYL2" code 10 (some .boolean) "law") (hw0 : Rd w0 10) (hn : n0 ≤ h0.size) (x2 : Int32) (x3 : Int32) (x4 : Int32) (s0 : Int32) (σ : Sg) : OkR p l e rm_q_law s m args below meth c Z "ConservativeBiY" fsC n0 h0 FL A (wF arrsC w0) 11 664 27 [.unset, .unset, .val (.int x2), .val (.int x3), .val (.int x4), .val (.ref 0), .unset, .unset, .unset, .unset] [.int s0] σ (q_law_27 x2 x3 x4 s0 σ) := by
  have hT := tabL hw "law"
  have hF := fsokC hw
  have wi := wiC hw
  unfold q_law_27
  refine am_blk (pc' := 31) (Ls' := [.unset, .unset, .val (.int x2), .val (.int x3), .val (.int x4), .val (.ref 0), .val (.int s0), .unset, .unset, .unset]) (St' := [.int (1 : Int32), .int x2]) (σ' := σ) [.istore 6, .iload_n 2, .iconst 1] (by decide +kernel) hc hT hF wi (by exact rfl) ?_
  refine am_icmp_gt (o := 7) (pc1 := 38) (by decide +kernel) hc (fun hq => ?_) (fun hq => ?_)
  · refine am_blk (pc' := 40) (Ls' := [.unset, .unset, .val (.int x2), .val (.int x3), .val (.int x4), .val (.ref 0), .val (.int s0), .unset, .unset, .unset]) (St' := [.int (2 : Int32), .int x2]) (σ' := σ) [.iload_n 2, .iconst 2] (by decide +kernel) hc hT hF wi (by exact rfl) ?_
    refine am_icmp_gt (o := 7) (pc1 := 47) (by decide +kernel) hc (fun hq => ?_) (fun hq => ?_)
    · refine am_blk (pc' := 49) (Ls' := [.unset, .unset, .val (.int x2), .val (.int x3), .val (.int x4), .val (.ref 0), .val (.int s0), .unset, .unset, .unset]) (St' := [.int (4 : Int32), .int x2]) (σ' := σ) [.iload_n 2, .iconst 4] (by decide +kernel) hc hT hF wi (by exact rfl) ?_
      refine am_icmp_gt (o := 7) (pc1 := 56) (by decide +kernel) hc (fun hq => ?_) (fun hq => ?_)
      · refine am_blk (pc' := 59) (Ls' := [.unset, .unset, .val (.int x2), .val (.int x3), .val (.int x4), .val (.ref 0), .val (.int s0), .unset, .unset, .unset]) (St' := [.int (8 : Int32), .int x2]) (σ' := σ) [.iload_n 2, .bipush 8] (by decide +kernel) hc hT hF wi (by exact rfl) ?_
        refine am_icmp_gt (o := 8) (pc1 := 67) (by decide +kernel) hc (fun hq => ?_) (fun hq => ?_)
        · refine am_blk (pc' := 69) (Ls' := [.unset, .unset, .val (.int x2), .val (.int x3), .val (.int x4), .val (.ref 0), .val (.int s0), .unset, .unset, .unset]) (St' := [.int (16 : Int32)]) (σ' := σ) [.bipush 16] (by decide +kernel) hc hT hF wi (by exact rfl) ?_
          exact am_wk (Ls' := [.unset, .unset, .val (.int x2), .val (.int x3), .val (.int x4), .val (.ref 0), .val (.int s0), .unset, .unset, .unset]) (by simp [wkL]) (okc_q_law_69 hw hc hw0 hn x2 x3 x4 s0 (16 : Int32) σ)
        · refine am_blk (pc' := 69) (Ls' := [.unset, .unset, .val (.int x2), .val (.int x3), .val (.int x4), .val (.ref 0), .val (.int s0), .unset, .unset, .unset]) (St' := [.int (8 : Int32)]) (σ' := σ) [.bipush 8, .goto 5] (by decide +kernel) hc hT hF wi (by exact rfl) ?_
          exact am_wk (Ls' := [.unset, .unset, .val (.int x2), .val (.int x3), .val (.int x4), .val (.ref 0), .val (.int s0), .unset, .unset, .unset]) (by simp [wkL]) (okc_q_law_69 hw hc hw0 hn x2 x3 x4 s0 (8 : Int32) σ)
      · refine am_blk (pc' := 69) (Ls' := [.unset, .unset, .val (.int x2), .val (.int x3), .val (.int x4), .val (.ref 0), .val (.int s0), .unset, .unset, .unset]) (St' := [.int (4 : Int32)]) (σ' := σ) [.iconst 4, .goto 16] (by decide +kernel) hc hT hF wi (by exact rfl) ?_
        exact am_wk (Ls' := [.unset, .unset, .val (.int x2), .val (.int x3), .val (.int x4), .val (.ref 0), .val (.int s0), .unset, .unset, .unset]) (by simp [wkL]) (okc_q_law_69 hw hc hw0 hn x2 x3 x4 s0 (4 : Int32) σ)
    · refine am_blk (pc' := 69) (Ls' := [.unset, .unset, .val (.int x2), .val (.int x3), .val (.int x4), .val (.ref 0), .val (.int s0), .unset, .unset, .unset]) (St' := [.int (2 : Int32)]) (σ' := σ) [.iconst 2, .goto 25] (by decide +kernel) hc hT hF wi (by exact rfl) ?_
      exact am_wk (Ls' := [.unset, .unset, .val (.int x2), .val (.int x3), .val (.int x4), .val (.ref 0), .val (.int s0), .unset, .unset, .unset]) (by simp [wkL]) (okc_q_law_69 hw hc hw0 hn x2 x3 x4 s0 (2 : Int32) σ)
  · refine am_blk (pc' := 69) (Ls' := [.unset, .unset, .val (.int x2), .val (.int x3), .val (.int x4), .val (.ref 0), .val (.int s0), .unset, .unset, .unset]) (St' := [.int (1 : Int32)]) (σ' := σ) [.iconst 1, .goto 34] (by decide +kernel) hc hT hF wi (by exact rfl) ?_
    exact am_wk (Ls' := [.unset, .unset, .val (.int x2), .val (.int x3), .val (.int x4), .val (.ref 0), .val (.int s0), .unset, .unset, .unset]) (by simp [wkL]) (okc_q_law_69 hw hc hw0 hn x2 x3 x4 s0 (1 : Int32) σ)
def q_law_26 (x2 : Int32) (x3 : Int32) (x4 : Int32) (σ : Sg) : Option (Int32 × Sg) :=
  q_law_27 x2 x3 x4 (0 : Int32) σ
set_option maxRecDepth 65536 in
set_option maxHeartbeats 4000000 in
theorem okc_q_law_26 (hw : WH a0 Z) (hc : Cx p s m meth c Z "ConservativeBiYL2" code 10 (some .boolean) "law") (hw0 : Rd w0 10) (hn : n0 ≤ h0.size) (x2 : Int32) (x3 : Int32) (x4 : Int32) (σ : Sg) : OkR p l e rm_q_law s m args below meth c Z "ConservativeBiY" fsC n0 h0 FL A (wF arrsC w0) 11 664 26 [.unset, .unset, .val (.int x2), .val (.int x3), .val (.int x4), .val (.ref 0), .unset, .unset, .unset, .unset] [] σ (q_law_26 x2 x3 x4 σ) := by
  have hT := tabL hw "law"
  have hF := fsokC hw
  have wi := wiC hw
  unfold q_law_26
  refine am_blk (pc' := 27) (Ls' := [.unset, .unset, .val (.int x2), .val (.int x3), .val (.int x4), .val (.ref 0), .unset, .unset, .unset, .unset]) (St' := [.int (0 : Int32)]) (σ' := σ) [.iconst 0] (by decide +kernel) hc hT hF wi (by exact rfl) ?_
  exact am_wk (Ls' := [.unset, .unset, .val (.int x2), .val (.int x3), .val (.int x4), .val (.ref 0), .unset, .unset, .unset, .unset]) (by simp [wkL]) (okc_q_law_27 hw hc hw0 hn x2 x3 x4 (0 : Int32) σ)
def q_law (x0 : Int32) (x1 : Int32) (x2 : Int32) (x3 : Int32) (x4 : Int32) : Option (Int32 × Sg) :=
  (c_init x0 x1).bind fun r1 => if x2 < (1 : Int32) then (q_law_26 x2 x3 x4 r1) else (if (16 : Int32) < x2 then (q_law_26 x2 x3 x4 r1) else (q_law_27 x2 x3 x4 (1 : Int32) r1))
set_option maxRecDepth 65536 in
set_option maxHeartbeats 4000000 in
theorem ok_q_law (hw : WH a0 Z) (hw0 : Rd w0 10) (hn : n0 ≤ h0.size) (hc : Cx p s m meth c Z "ConservativeBiYL2" code 10 (some .boolean) "law") (x0 : Int32) (x1 : Int32) (x2 : Int32) (x3 : Int32) (x4 : Int32) : OkR p l e rm_q_law s m args below meth c Z "ConservativeBiY" fsC n0 h0 FL A w0 0 0 0 [.val (.int x0), .val (.int x1), .val (.int x2), .val (.int x3), .val (.int x4), .unset, .unset, .unset, .unset, .unset] [] zs (q_law x0 x1 x2 x3 x4) := by
  have hT := tabL hw "law"
  have hF := fsokC hw
  have wi := wiC hw
  unfold q_law
  refine am_new (mm := 10) (by decide +kernel) hc hF (hw _ (List.mem_of_getElem? (i := 0) rfl)) wi (wzC hw) hw0 ⟨rfl, rfl⟩ hn ⟨by decide, by decide⟩ (fun A hA => ?_)
  refine am_blk (pc' := 6) (Ls' := [.val (.int x0), .val (.int x1), .val (.int x2), .val (.int x3), .val (.int x4), .unset, .unset, .unset, .unset, .unset]) (St' := [.int x1, .int x0, .ref 0, .ref 0]) (σ' := zs) [.dup, .iload_n 0, .iload_n 1] (by decide +kernel) hc hT hF wi (by exact rfl) ?_
  refine am_ctor (arrs := arrsC) (W0 := 1) (argsL := [.int x0, .int x1]) (rest := [.ref 0]) (lk_L_9 hw) (by decide +kernel) hc hw0 rfl (by show arity "(II)V" 2 = true; decide +kernel) (ok_c_init hw x0 x1) ⟨rfl, rfl⟩ rfl hn ⟨by decide, by decide, Nat.le_of_eq rfl, by decide, by decide⟩ (fun A r1 hr => ?_)
  refine am_blk (pc' := 13) (Ls' := [.val (.int x0), .val (.int x1), .val (.int x2), .val (.int x3), .val (.int x4), .val (.ref 0), .unset, .unset, .unset, .unset]) (St' := [.int (1 : Int32), .int x2]) (σ' := r1) [.astore 5, .iload_n 2, .iconst 1] (by decide +kernel) hc hT hF wi (by exact rfl) ?_
  refine am_icmp_lt (o := 13) (pc1 := 26) (by decide +kernel) hc (fun hq => ?_) (fun hq => ?_)
  · exact am_wk (Ls' := [.unset, .unset, .val (.int x2), .val (.int x3), .val (.int x4), .val (.ref 0), .unset, .unset, .unset, .unset]) (by simp [wkL]) (okc_q_law_26 hw hc hw0 hn x2 x3 x4 r1)
  · refine am_blk (pc' := 19) (Ls' := [.val (.int x0), .val (.int x1), .val (.int x2), .val (.int x3), .val (.int x4), .val (.ref 0), .unset, .unset, .unset, .unset]) (St' := [.int (16 : Int32), .int x2]) (σ' := r1) [.iload_n 2, .bipush 16] (by decide +kernel) hc hT hF wi (by exact rfl) ?_
    refine am_icmp_gt (o := 7) (pc1 := 26) (by decide +kernel) hc (fun hq => ?_) (fun hq => ?_)
    · exact am_wk (Ls' := [.unset, .unset, .val (.int x2), .val (.int x3), .val (.int x4), .val (.ref 0), .unset, .unset, .unset, .unset]) (by simp [wkL]) (okc_q_law_26 hw hc hw0 hn x2 x3 x4 r1)
    · refine am_blk (pc' := 27) (Ls' := [.val (.int x0), .val (.int x1), .val (.int x2), .val (.int x3), .val (.int x4), .val (.ref 0), .unset, .unset, .unset, .unset]) (St' := [.int (1 : Int32)]) (σ' := r1) [.iconst 1, .goto 4] (by decide +kernel) hc hT hF wi (by exact rfl) ?_
      exact am_wk (Ls' := [.unset, .unset, .val (.int x2), .val (.int x3), .val (.int x4), .val (.ref 0), .unset, .unset, .unset, .unset]) (by simp [wkL]) (okc_q_law_27 hw hc hw0 hn x2 x3 x4 (1 : Int32) r1)
end Walk
/-! numbers -/
theorem ti_lt {x y : Int32} : x < y ↔ x.toInt < y.toInt := Int32.lt_iff_toInt_lt
theorem ti_eq {x y : Int32} : x = y ↔ x.toInt = y.toInt := Int32.toInt_inj.symm
theorem ti_lo (x : Int32) : -2147483648 ≤ x.toInt := Int32.le_toInt x
theorem ti_hi (x : Int32) : x.toInt ≤ 2147483647 := by have := Int32.toInt_lt x; omega
theorem ti_add {x y : Int32} (h1 : -2147483648 ≤ x.toInt + y.toInt) (h2 : x.toInt + y.toInt ≤ 2147483647) : (x + y).toInt = x.toInt + y.toInt := by
  rw [Int32.toInt_add]; exact Int.bmod_eq_of_le (by omega) (by omega)
theorem ti_sub {x y : Int32} (h1 : -2147483648 ≤ x.toInt - y.toInt) (h2 : x.toInt - y.toInt ≤ 2147483647) : (x - y).toInt = x.toInt - y.toInt := by
  rw [Int32.toInt_sub]; exact Int.bmod_eq_of_le (by omega) (by omega)
theorem ti_mul {x y : Int32} (h1 : -2147483648 ≤ x.toInt * y.toInt) (h2 : x.toInt * y.toInt ≤ 2147483647) : (x * y).toInt = x.toInt * y.toInt := by
  rw [Int32.toInt_mul]; exact Int.bmod_eq_of_le (by omega) (by omega)
theorem ti_add1 {x : Int32} (h : x.toInt < 2147483647) : (x + 1).toInt = x.toInt + 1 := by
  have := ti_lo x
  have e : (1 : Int32).toInt = 1 := rfl
  rw [ti_add (by omega) (by omega), e]
theorem inbT {i : Int32} {n : Nat} (h1 : 0 ≤ i.toInt) (h2 : i.toInt < (n : Int)) : inb i n = true := inb_iff.mpr ⟨h1, h2⟩
theorem nx_eq {i : Int32} {n : Nat} (h : i.toInt = (n : Int)) : nx i = n := by unfold nx; omega
theorem nx_lt {i : Int32} {n : Nat} (h1 : 0 ≤ i.toInt) (h2 : i.toInt < (n : Int)) : nx i < n := by unfold nx; omega
theorem ti_nat {q : Int32} (h : 0 ≤ q.toInt) : q.toBitVec.toNat = q.toInt.toNat := by
  have e : q.toInt = q.toBitVec.toInt := rfl
  rw [BitVec.toInt_eq_toNat_cond] at e
  have := q.toBitVec.isLt
  split at e <;> omega
theorem ti_ofNat {n : Nat} (h : n < 2147483648) : (Int32.ofNat n).toInt = (n : Int) := Int32.toInt_ofNat_of_lt h
theorem eq_ofNat {x : Int32} {n : Nat} (h : x.toInt = (n : Int)) : x = Int32.ofNat n := by
  have := ti_hi x
  rw [ti_eq, ti_ofNat (by omega)]; exact h
theorem nx_ofNat {n : Nat} (h : n < 2147483648) : nx (Int32.ofNat n) = n := nx_eq (ti_ofNat h)
theorem ofNat_nx {x : Int32} (h : 0 ≤ x.toInt) : Int32.ofNat (nx x) = x := by
  have := ti_hi x
  rw [ti_eq, ti_ofNat (by unfold nx; omega)]; unfold nx; omega
theorem ofNat_succ (n : Nat) : Int32.ofNat n + 1 = Int32.ofNat (n + 1) := by
  rw [Int32.ofNat_add]; rfl
theorem ofNat_lt {a b : Nat} (ha : a < 2147483648) (hb : b < 2147483648) : Int32.ofNat a < Int32.ofNat b ↔ a < b := by
  rw [ti_lt, ti_ofNat ha, ti_ofNat hb]; omega
theorem ti_shr {x q : Int32} {k : Nat} (hq : q.toInt = (k : Int)) (hk : k < 32) : (x >>> (q &&& 31)).toInt = x.toInt / ((2 ^ k : Nat) : Int) := c_ishr x q k (by rw [ti_nat (by omega)]; omega)
theorem ti_shl {x q : Int32} {k : Nat} (hq : q.toInt = (k : Int)) (hk : k < 32) (h1 : -2147483648 ≤ x.toInt * ((2 ^ k : Nat) : Int)) (h2 : x.toInt * ((2 ^ k : Nat) : Int) ≤ 2147483647) : (x <<< (q &&& 31)).toInt = x.toInt * ((2 ^ k : Nat) : Int) := by
  have a := c_ishl x q k (by rw [ti_nat (by omega)]; omega)
  have b := ti_lo (x <<< (q &&& 31))
  have c := ti_hi (x <<< (q &&& 31))
  generalize x.toInt * ((2 ^ k : Nat) : Int) = z at *
  omega
/-- a counted loop: an invariant goes through -/
theorem loop_inv {α : Type} (L : Nat → Int32 → Sg → Option α) (body : Int32 → Sg → Option Sg) (exit : Sg → Option α) (N : Nat) (hN : N < 2147483648)
    (hL : ∀ f i σ, L (f + 1) i σ = if i < Int32.ofNat N then (body i σ).bind (fun r => L f (i + 1) r) else exit σ) (Inv : Nat → Sg → Prop)
    (hb : ∀ i σ, i < N → Inv i σ → ∃ σ', body (Int32.ofNat i) σ = some σ' ∧ Inv (i + 1) σ') :
    ∀ (k i fuel : Nat) (σ : Sg), i + k = N → k < fuel → Inv i σ → ∃ σ', L fuel (Int32.ofNat i) σ = exit σ' ∧ Inv N σ' := by
  intro k
  induction k with
  | zero =>
    intro i fuel σ h1 h2 h3
    obtain ⟨f, rfl⟩ : ∃ f, fuel = f + 1 := ⟨fuel - 1, by omega⟩
    have : i = N := by omega
    subst this
    rw [hL, if_neg (by rw [ofNat_lt hN hN]; omega)]
    exact ⟨σ, rfl, h3⟩
  | succ k ih =>
    intro i fuel σ h1 h2 h3
    obtain ⟨f, rfl⟩ : ∃ f, fuel = f + 1 := ⟨fuel - 1, by omega⟩
    obtain ⟨σ1, q1, q2⟩ := hb i σ (by omega) h3
    rw [hL, if_pos (by rw [ofNat_lt (by omega) hN]; omega), q1, Option.bind_some, ofNat_succ]
    exact ih (i + 1) f σ1 (by omega) (by omega) q2
/-! bits of longs -/
/-- bit m of a table -/
def tbL (y : Int64) (m : Nat) : Bool := y.toBitVec.getLsbD m
theorem cmp0 (x y : Int64) : XT.cmpL x y = 0 ↔ x = y := by
  unfold XT.cmpL
  by_cases h : x = y
  · subst h; simp [Int64.lt_irrefl]
  · by_cases h2 : y < x
    · simp [h, h2]
    · simp [h, h2]
theorem shL_lit : ∀ k : Fin 64, ((Int32.ofNat k.1).toInt64.toUInt64 &&& Int64.toUInt64 63) = UInt64.ofNat k.1 := by decide +kernel
theorem ushrL_bv (y : Int64) {k : Nat} (h : k < 64) : (XT.ushrL y (Int32.ofNat k)).toBitVec = y.toBitVec >>> k := by
  unfold XT.ushrL
  rw [shL_lit ⟨k, h⟩]
  show (y.toUInt64 >>> UInt64.ofNat k).toBitVec = _
  rw [UInt64.toBitVec_shiftRight]
  have : ((UInt64.ofNat k).toBitVec % 64).toNat = k := by
    rw [BitVec.toNat_umod]
    show (UInt64.ofNat k).toNat % 64 = k
    rw [UInt64.toNat_ofNat']
    omega
  rw [BitVec.ushiftRight_eq', this]
  rfl
theorem bitL (y : Int64) {k : Nat} (h : k < 64) : (XT.ushrL y (Int32.ofNat k)) &&& 1 = 0 ↔ tbL y k = false := by
  rw [← Int64.toBitVec_inj, Int64.toBitVec_and, ushrL_bv y h]
  unfold tbL
  constructor
  · intro q
    have := congrArg (fun b => b.getLsbD 0) q
    simpa using this
  · intro q
    apply BitVec.eq_of_getLsbD_eq
    intro i hi
    rw [BitVec.getLsbD_and]
    by_cases e : i = 0
    · subst e; simp [q]
    · have : (1 : Int64).toBitVec.getLsbD i = false := by
        show (1#64).getLsbD i = false
        simp [BitVec.getLsbD_one, e]
      rw [this]; simp
theorem shl_lit : ∀ k : Fin 64, ((((Int32.ofNat k.1).toInt64 &&& 63 : Int64).toBitVec.smod 64)).toNat = k.1 := by decide +kernel
theorem shl_bv (y : Int64) {k : Nat} (h : k < 64) : (y <<< ((Int32.ofNat k).toInt64 &&& 63)).toBitVec = y.toBitVec <<< k := by
  rw [Int64.toBitVec_shiftLeft, BitVec.shiftLeft_eq', shl_lit ⟨k, h⟩]
theorem tbL_shl (y : Int64) {k t : Nat} (h : k < 64) (ht : t < 64) : tbL (y <<< ((Int32.ofNat k).toInt64 &&& 63)) t = (decide (k ≤ t) && tbL y (t - k)) := by
  unfold tbL
  rw [shl_bv y h, BitVec.getLsbD_shiftLeft]
  by_cases q : t < k
  · simp [q, show ¬ k ≤ t by omega]
  · simp [q, ht, show k ≤ t by omega]
theorem tbL_or (x y : Int64) (t : Nat) : tbL (x ||| y) t = (tbL x t || tbL y t) := by unfold tbL; rw [Int64.toBitVec_or, BitVec.getLsbD_or]
theorem tbL_and (x y : Int64) (t : Nat) : tbL (x &&& y) t = (tbL x t && tbL y t) := by unfold tbL; rw [Int64.toBitVec_and, BitVec.getLsbD_and]
theorem tbL_xor (x y : Int64) (t : Nat) : tbL (x ^^^ y) t = (tbL x t ^^ tbL y t) := by unfold tbL; rw [Int64.toBitVec_xor, BitVec.getLsbD_xor]
theorem tbL_neg1 {t : Nat} (h : t < 64) : tbL (-1) t = true := by
  have : ∀ t : Fin 64, tbL (-1) t.1 = true := by decide +kernel
  exact this ⟨t, h⟩
theorem tbL_zero (t : Nat) : tbL 0 t = false := by
  unfold tbL; show (0#64).getLsbD t = false; simp
theorem tbL_one (t : Nat) : tbL 1 t = decide (t = 0) := by
  unfold tbL; show (1#64).getLsbD t = _
  by_cases h : t = 0
  · subst h; rfl
  · simp [BitVec.getLsbD_one, h]
theorem tbL_ext {x y : Int64} (h : ∀ t, t < 64 → tbL x t = tbL y t) : x = y := by
  apply Int64.toBitVec_inj.mp
  apply BitVec.eq_of_getLsbD_eq
  intro t ht
  exact h t ht
/-! bits of ints -/
def tbI (m : Int32) (i : Nat) : Bool := m.toBitVec.getLsbD i
theorem shr_lit : ∀ k : Fin 32, (((Int32.ofNat k.1 &&& 31 : Int32).toBitVec.smod 32)).toNat = k.1 := by decide +kernel
theorem shr_bit (m : Int32) {i : Nat} (h : i < 32) : (m >>> (Int32.ofNat i &&& 31)) &&& 1 = 0 ↔ tbI m i = false := by
  have e : (m >>> (Int32.ofNat i &&& 31)).toBitVec = m.toBitVec.sshiftRight i := by
    rw [Int32.toBitVec_shiftRight, BitVec.sshiftRight_eq', shr_lit ⟨i, h⟩]
  rw [← Int32.toBitVec_inj, Int32.toBitVec_and, e]
  unfold tbI
  have e0 : (m.toBitVec.sshiftRight i).getLsbD 0 = m.toBitVec.getLsbD i := by
    rw [BitVec.getLsbD_sshiftRight]; simp [h]
  constructor
  · intro q
    have := congrArg (fun b => b.getLsbD 0) q
    rw [← e0]
    simpa using this
  · intro q
    apply BitVec.eq_of_getLsbD_eq
    intro t ht
    rw [BitVec.getLsbD_and]
    by_cases z : t = 0
    · subst z; rw [e0, q]; simp
    · have : (1 : Int32).toBitVec.getLsbD t = false := by
        show (1#32).getLsbD t = false
        simp [BitVec.getLsbD_one, z]
      rw [this]; simp
theorem tbI_bit {k i : Nat} (hk : k < 32) (hi : i < 32) : tbI ((1 : Int32) <<< (Int32.ofNat k &&& 31)) i = decide (i = k) := by
  have : ∀ (k i : Fin 32), tbI ((1 : Int32) <<< (Int32.ofNat k.1 &&& 31)) i.1 = decide (i.1 = k.1) := by decide +kernel
  exact this ⟨k, hk⟩ ⟨i, hi⟩
theorem tbI_or (x y : Int32) (t : Nat) : tbI (x ||| y) t = (tbI x t || tbI y t) := by unfold tbI; rw [Int32.toBitVec_or, BitVec.getLsbD_or]
theorem tbI_and (x y : Int32) (t : Nat) : tbI (x &&& y) t = (tbI x t && tbI y t) := by unfold tbI; rw [Int32.toBitVec_and, BitVec.getLsbD_and]
theorem tbI_xor (x y : Int32) (t : Nat) : tbI (x ^^^ y) t = (tbI x t ^^ tbI y t) := by unfold tbI; rw [Int32.toBitVec_xor, BitVec.getLsbD_xor]
theorem tbI_neg1 {t : Nat} (h : t < 32) : tbI (-1) t = true := by
  have : ∀ t : Fin 32, tbI (-1) t.1 = true := by decide +kernel
  exact this ⟨t, h⟩
theorem tbI_zero (t : Nat) : tbI 0 t = false := by
  unfold tbI; show (0#32).getLsbD t = false; simp
theorem tbI_ext {x y : Int32} (h : ∀ t, t < 32 → tbI x t = tbI y t) : x = y := by
  apply Int32.toBitVec_inj.mp
  apply BitVec.eq_of_getLsbD_eq
  intro t ht
  exact h t ht
theorem tbI_ne0 {x : Int32} (h : x ≠ 0) : ∃ t, t < 32 ∧ tbI x t = true := by
  apply Classical.byContradiction
  intro q
  apply h
  refine tbI_ext fun t ht => ?_
  rw [tbI_zero]
  cases e : tbI x t with
  | false => rfl
  | true => exact absurd ⟨t, ht, e⟩ q
/-! ConservativeBiY: small methods -/
def tb (m i : Int32) : Int32 := (m >>> (i &&& 31)) &&& 1
theorem p_low_loop (k : Nat) : ∀ (fuel : Nat) (m i : Int32) (σ : Sg), i.toInt + k = 16 → 0 ≤ i.toInt → k < fuel →
    ∃ r, c_lowestBit_2 fuel m i σ = some (r, σ) ∧ ((r = -1 ∧ ∀ j : Int32, i.toInt ≤ j.toInt → j.toInt < 16 → tb m j = 0) ∨ (i.toInt ≤ r.toInt ∧ r.toInt < 16 ∧ tb m r ≠ 0 ∧ ∀ j : Int32, i.toInt ≤ j.toInt → j.toInt < r.toInt → tb m j = 0)) := by
  have e16 : (16 : Int32).toInt = 16 := rfl
  induction k with
  | zero =>
    intro fuel m i σ h1 h2 h3
    obtain ⟨f, rfl⟩ : ∃ f, fuel = f + 1 := ⟨fuel - 1, by omega⟩
    rw [c_lowestBit_2, if_neg (by rw [ti_lt]; omega)]
    exact ⟨-1, rfl, Or.inl ⟨rfl, fun j a b => by omega⟩⟩
  | succ k ih =>
    intro fuel m i σ h1 h2 h3
    obtain ⟨f, rfl⟩ : ∃ f, fuel = f + 1 := ⟨fuel - 1, by omega⟩
    rw [c_lowestBit_2, if_pos (by rw [ti_lt]; omega)]
    have e1 : (i + 1).toInt = i.toInt + 1 := ti_add1 (by omega)
    by_cases hb : (m >>> (i &&& 31)) &&& 1 = 0
    · rw [if_pos hb]
      have hone : ∀ j : Int32, j.toInt = i.toInt → tb m j = 0 := fun j e => by rw [ti_eq.mpr e]; exact hb
      obtain ⟨r, q, h⟩ := ih f m (i + 1) σ (by omega) (by omega) (by omega)
      refine ⟨r, q, ?_⟩
      rcases h with ⟨rfl, h⟩ | ⟨a, b, c, d⟩
      · refine Or.inl ⟨rfl, fun j a b => ?_⟩
        by_cases e : j.toInt = i.toInt
        · exact hone j e
        · exact h j (by omega) b
      · refine Or.inr ⟨by omega, b, c, fun j a' b' => ?_⟩
        by_cases e : j.toInt = i.toInt
        · exact hone j e
        · exact d j (by omega) b'
    · rw [if_neg hb]
      exact ⟨i, rfl, Or.inr ⟨by omega, by omega, hb, fun j a b => by omega⟩⟩
theorem p_low (m : Int32) (σ : Sg) : ∃ r, c_lowestBit m σ = some (r, σ) ∧ ((r = -1 ∧ ∀ j : Int32, 0 ≤ j.toInt → j.toInt < 16 → tb m j = 0) ∨ (0 ≤ r.toInt ∧ r.toInt < 16 ∧ tb m r ≠ 0 ∧ ∀ j : Int32, 0 ≤ j.toInt → j.toInt < r.toInt → tb m j = 0)) :=
  p_low_loop 16 400 m 0 σ rfl (by decide) (by decide)
def ciF (n : Int32) : Int32 := if 1 < n then (if 2 < n then (if 4 < n then (if 8 < n then 4 else 3) else 2) else 1) else 0
theorem p_ci (n : Int32) (σ : Sg) : c_classIndexFor n σ = some (ciF n, σ) := by
  unfold c_classIndexFor ciF
  have e0 : ((1 : Int32) <<< ((0 : Int32) &&& 31)) = 1 := by decide
  have e1 : ((1 : Int32) <<< ((0 + 1 : Int32) &&& 31)) = 2 := by decide
  have e2 : ((1 : Int32) <<< ((0 + 1 + 1 : Int32) &&& 31)) = 4 := by decide
  have e3 : ((1 : Int32) <<< ((0 + 1 + 1 + 1 : Int32) &&& 31)) = 8 := by decide
  have e4 : ((1 : Int32) <<< ((0 + 1 + 1 + 1 + 1 : Int32) &&& 31)) = 16 := by decide
  rw [c_classIndexFor_2, if_pos (by decide), e0]
  split
  · rw [c_classIndexFor_2, if_pos (by decide), e1]
    split
    · rw [c_classIndexFor_2, if_pos (by decide), e2]
      split
      · rw [c_classIndexFor_2, if_pos (by decide), e3]
        split
        · rw [c_classIndexFor_2, if_pos (by decide), e4]
          split
          · rw [c_classIndexFor_2, if_neg (by decide)]
          · rfl
        · rfl
      · rfl
    · rfl
  · rfl
/-- words cleared: only the heap's cells change -/
theorem p_cw_loop (k : Nat) : ∀ (fuel : Nat) (sz b i : Int32) (σ : Sg), i.toInt + k = 16 → 0 ≤ i.toInt → k < fuel →
    ∃ σ', c_clearWords_9 fuel sz b i σ = some σ' ∧ (∀ kk j, kk ≠ 2 → gi σ' kk j = gi σ kk j) ∧ (∀ j, gi σ' 2 j = gi σ 2 j ∨ gi σ' 2 j = 0) ∧
      (0 ≤ b.toInt → b.toInt ≤ 240 → ∀ t : Int32, i.toInt ≤ t.toInt → t.toInt < sz.toInt → t.toInt < 16 → gi σ' 2 (nx (b + t)) = 0) := by
  have e16 : (16 : Int32).toInt = 16 := rfl
  induction k with
  | zero =>
    intro fuel sz b i σ h1 h2 h3
    obtain ⟨f, rfl⟩ : ∃ f, fuel = f + 1 := ⟨fuel - 1, by omega⟩
    rw [c_clearWords_9]
    refine ⟨σ, ?_, fun _ _ _ => rfl, fun _ => Or.inl rfl, fun _ _ t a b c => by omega⟩
    split
    · rw [if_neg (by rw [ti_lt]; omega)]
    · rfl
  | succ k ih =>
    intro fuel sz b i σ h1 h2 h3
    obtain ⟨f, rfl⟩ : ∃ f, fuel = f + 1 := ⟨fuel - 1, by omega⟩
    have e1 : (i + 1).toInt = i.toInt + 1 := ti_add1 (by omega)
    rw [c_clearWords_9]
    by_cases hs : i < sz
    · rw [if_pos hs, if_pos (by rw [ti_lt]; omega)]
      unfold c_clearWords_49
      obtain ⟨σ1, q1, r1, r2, r3⟩ := ih f sz b (i + 1) σ (by omega) (by omega) (by omega)
      obtain ⟨σ2, p1, p2, p3, p4⟩ := ih f sz b (i + 1) (si σ 2 (nx (b + i)) 0) (by omega) (by omega) (by omega)
      have e0 : (0 : Int32).toInt = 0 := rfl
      have e256 : (256 : Int32).toInt = 256 := rfl
      have hbi : 0 ≤ b.toInt → b.toInt ≤ 240 → (b + i).toInt = b.toInt + i.toInt := fun a c => ti_add (by omega) (by omega)
      by_cases c1 : b + i < 0
      · rw [if_pos c1]
        refine ⟨σ1, q1, r1, r2, fun a c t d1 d2 d3 => ?_⟩
        have := hbi a c
        rw [ti_lt] at c1
        omega
      · rw [if_neg c1]
        by_cases c2 : b + i < 256
        · rw [ti_lt] at c1 c2
          rw [if_pos (by rw [ti_lt]; exact c2), if_pos (inbT (by omega) (show (b + i).toInt < ((256 : Nat) : Int) by omega))]
          refine ⟨σ2, p1, fun kk j ne => by rw [p2 kk j ne]; simp [gi_si, ne], fun j => ?_, fun a c t d1 d2 d3 => ?_⟩
          · rcases p3 j with h | h
            · rw [h]
              by_cases e : j = nx (b + i)
              · right; simp [gi_si, e]
              · left; simp [gi_si, e]
            · exact Or.inr h
          · by_cases e : t.toInt = i.toInt
            · rw [ti_eq.mpr e]
              rcases p3 (nx (b + i)) with h | h
              · rw [h]; simp [gi_si]
              · exact h
            · exact p4 a c t (by omega) d2 d3
        · rw [if_neg c2]
          refine ⟨σ1, q1, r1, r2, fun a c t d1 d2 d3 => ?_⟩
          have := hbi a c
          rw [ti_lt] at c2
          omega
    · rw [if_neg hs]
      refine ⟨σ, rfl, fun _ _ _ => rfl, fun _ => Or.inl rfl, fun _ _ t a b c => ?_⟩
      rw [ti_lt] at hs
      omega
theorem p_cw (st sz : Int32) (σ : Sg) : ∃ σ', c_clearWords st sz σ = some σ' ∧ (∀ kk j, kk ≠ 2 → gi σ' kk j = gi σ kk j) ∧ (∀ j, gi σ' 2 j = gi σ 2 j ∨ gi σ' 2 j = 0) ∧
      (0 ≤ (st - 4096).toInt → (st - 4096).toInt ≤ 240 → ∀ t : Int32, 0 ≤ t.toInt → t.toInt < sz.toInt → t.toInt < 16 → gi σ' 2 (nx (st - 4096 + t)) = 0) :=
  p_cw_loop 16 400 sz (st - 4096) 0 σ rfl (by decide) (by decide)
/-- the lists are brought up to date: nothing else changes -/
def RfK (σ σ' : Sg) : Prop := (∀ kk j, kk ≠ 0 → kk ≠ 8 → gi σ' kk j = gi σ kk j) ∧ ∀ j, j ≠ 13 → gi σ' 0 j = gi σ 0 j
theorem p_rf_loop (k : Nat) : ∀ (fuel : Nat) (p bit i : Int32) (σ : Sg), i.toInt + k = 5 → 0 ≤ i.toInt → k < fuel → 0 ≤ p.toInt → p.toInt < 16 →
    ∃ σ', c_refreshPage_17 fuel p bit i σ = some σ' ∧ RfK σ σ' := by
  have e5 : (5 : Int32).toInt = 5 := rfl
  have e4 : (4 : Int32).toInt = 4 := rfl
  have e0 : (0 : Int32).toInt = 0 := rfl
  induction k with
  | zero =>
    intro fuel p bit i σ h1 h2 h3 hp1 hp2
    obtain ⟨f, rfl⟩ : ∃ f, fuel = f + 1 := ⟨fuel - 1, by omega⟩
    have hip : inb p 16 = true := inbT hp1 hp2
    rw [c_refreshPage_17, if_neg (by rw [ti_lt]; omega)]
    simp only [hip, if_true]
    split
    · split
      · exact ⟨_, rfl, fun kk j a b => by simp [gi_si, a], fun j a => by simp [gi_si, a]⟩
      · split
        · exact ⟨_, rfl, fun kk j a b => by simp [gi_si, a], fun j a => by simp [gi_si, a]⟩
        · rename_i c1
          split
          · exact ⟨_, rfl, fun kk j a b => by simp [gi_si, a], fun j a => by simp [gi_si, a]⟩
          · rename_i c2
            rw [ti_lt] at c1 c2
            have hin : inb (gi σ 4 (nx p)) 5 = true := inbT (by omega) (show (gi σ 4 (nx p)).toInt < ((5 : Nat) : Int) by omega)
            have hs : ∃ z, c_slotMaskFor (gi σ 4 (nx p)) (si σ 0 13 ((gi σ 0 13) &&& (bit ^^^ (-1 : Int32)))) = some (z, si σ 0 13 ((gi σ 0 13) &&& (bit ^^^ (-1 : Int32)))) := by
              unfold c_slotMaskFor
              split
              · exact ⟨_, rfl⟩
              · split <;> exact ⟨_, rfl⟩
            obtain ⟨z, hz⟩ := hs
            rw [hz]
            simp only [Option.bind_some, hin, if_true]
            split
            · exact ⟨_, rfl, fun kk j a b => by simp [gi_si, a], fun j a => by simp [gi_si, a]⟩
            · exact ⟨_, rfl, fun kk j a b => by simp [gi_si, a, b], fun j a => by simp [gi_si, a]⟩
    · exact ⟨_, rfl, fun kk j a b => by simp [gi_si, a], fun j a => by simp [gi_si, a]⟩
  | succ k ih =>
    intro fuel p bit i σ h1 h2 h3 hp1 hp2
    obtain ⟨f, rfl⟩ : ∃ f, fuel = f + 1 := ⟨fuel - 1, by omega⟩
    have e1 : (i + 1).toInt = i.toInt + 1 := ti_add1 (by omega)
    rw [c_refreshPage_17, if_pos (by rw [ti_lt]; omega), if_pos (inbT h2 (show i.toInt < ((5 : Nat) : Int) by omega))]
    obtain ⟨σ', q, a, b⟩ := ih f p bit (i + 1) (si σ 8 (nx i) ((gi σ 8 (nx i)) &&& (bit ^^^ (-1 : Int32)))) (by omega) (by omega) (by omega) hp1 hp2
    exact ⟨σ', q, fun kk j c d => by rw [a kk j c d]; simp [gi_si, d], fun j c => by rw [b j c]; simp [gi_si]⟩
theorem p_rf (p : Int32) (σ : Sg) (h1 : 0 ≤ p.toInt) (h2 : p.toInt < 16) : ∃ σ', c_refreshPage p σ = some σ' ∧ RfK σ σ' := by
  have e16 : (16 : Int32).toInt = 16 := rfl
  have e0 : (0 : Int32).toInt = 0 := rfl
  unfold c_refreshPage
  rw [if_neg (by rw [ti_lt]; omega), if_pos (by rw [ti_lt]; omega)]
  exact p_rf_loop 5 400 p _ 0 σ rfl (by decide) (by decide) h1 h2
def clp (x lo hi : Int32) : Int32 := if hi < (if x < lo then lo else x) then hi else (if x < lo then lo else x)
theorem clp_bd {x lo hi : Int32} (h : lo.toInt ≤ hi.toInt) : lo.toInt ≤ (clp x lo hi).toInt ∧ (clp x lo hi).toInt ≤ hi.toInt := by
  unfold clp
  by_cases h1 : x < lo
  · simp only [h1, if_true]
    split
    · rename_i h2; rw [ti_lt] at h2; omega
    · omega
  · simp only [h1, if_false]
    rw [ti_lt] at h1
    split
    · omega
    · rename_i h2; rw [ti_lt] at h2; omega
/-- a new heap -/
def FreshH (σ : Sg) (P R : Int32) : Prop := gi σ 0 10 = P ∧ gi σ 0 11 = R ∧ gi σ 0 12 = 0 ∧ gi σ 0 13 = (1 : Int32) <<< (P &&& 31) - 1 ∧ gi σ 0 14 = 0 ∧ gi σ 0 15 = 0 ∧ ∀ k j, k ≠ 0 → gi σ k j = 0
theorem p_init (a b : Int32) : ∃ σ, c_init a b = some σ ∧ FreshH σ (clp a 4 16) (clp b 1 32) := by
  have k3 : ∀ (P R : Int32), ∃ σ, c_init_131 R (si zs 0 10 P) = some σ ∧ FreshH σ P R := by
    intro P R
    unfold c_init_131 c_validPageMask
    simp only [Option.bind_some]
    refine ⟨_, rfl, ?_⟩
    refine ⟨by simp [gi_si], by simp [gi_si], by simp [gi_si], by simp [gi_si], by simp [gi_si], by simp [gi_si], fun k j h => by simp [gi_si, h, gi_zs]⟩
  have k2 : ∀ P : Int32, ∃ σ, c_init_103 b P zs = some σ ∧ FreshH σ P (clp b 1 32) := by
    intro P
    unfold c_init_103 c_init_120 clp
    by_cases h1 : b < 1
    · simp only [h1, if_true]
      split <;> exact k3 P _
    · simp only [h1, if_false]
      split <;> exact k3 P _
  unfold c_init c_init_94 clp
  by_cases h1 : a < 4
  · simp only [h1, if_true]
    split <;> exact k2 _
  · simp only [h1, if_false]
    split <;> exact k2 _
/-- the first object of a new heap -/
theorem p_place (p k : Int32) (σ : Sg) (h1 : 0 ≤ p.toInt) (h2 : p.toInt < 16) : ∃ σ', c_placeObject p k σ = some (4096 + (p <<< ((4 : Int32) &&& 31)) + (k <<< ((gi σ 4 (nx p)) &&& 31)), σ') ∧
    (∀ kk j, kk ≠ 0 → kk ≠ 2 → kk ≠ 8 → gi σ' kk j = gi (si (si σ 5 (nx p) ((gi σ 5 (nx p)) ||| ((1 : Int32) <<< (k &&& 31)))) 6 (nx p) ((gi σ 6 (nx p)) + 1)) kk j) ∧
    (∀ j, j ≠ 13 → j ≠ 15 → gi σ' 0 j = gi σ 0 j) ∧ gi σ' 0 15 = gi σ 0 15 + 1 ∧ (∀ j, gi σ' 2 j = gi σ 2 j ∨ gi σ' 2 j = 0) := by
  have hip : inb p 16 = true := inbT h1 h2
  unfold c_placeObject c_slotStart
  simp only [hip, if_true, Option.bind_some]
  have e4 : gi (si (si (si σ 5 (nx p) ((gi σ 5 (nx p)) ||| ((1 : Int32) <<< (k &&& 31)))) 6 (nx p) ((gi σ 6 (nx p)) + (1 : Int32))) 0 15 ((gi σ 0 15) + (1 : Int32))) 4 (nx p) = gi σ 4 (nx p) := by simp [gi_si]
  obtain ⟨σ1, q1, a1, a2, -⟩ := p_cw (4096 + (p <<< ((4 : Int32) &&& 31)) + (k <<< ((gi σ 4 (nx p)) &&& 31))) (gi (si (si (si σ 5 (nx p) ((gi σ 5 (nx p)) ||| ((1 : Int32) <<< (k &&& 31)))) 6 (nx p) ((gi σ 6 (nx p)) + (1 : Int32))) 0 15 ((gi σ 0 15) + (1 : Int32))) 3 (nx p)) (si (si (si σ 5 (nx p) ((gi σ 5 (nx p)) ||| ((1 : Int32) <<< (k &&& 31)))) 6 (nx p) ((gi σ 6 (nx p)) + (1 : Int32))) 0 15 ((gi σ 0 15) + (1 : Int32)))
  obtain ⟨σ2, q2, b1, b2⟩ := p_rf p σ1 h1 h2
  rw [e4, q1, Option.bind_some, q2, Option.bind_some]
  refine ⟨σ2, rfl, fun kk j c1 c2 c3 => ?_, fun j c1 c2 => ?_, ?_, fun j => ?_⟩
  · rw [b1 kk j c1 c3, a1 kk j c2]; simp [gi_si, c1]
  · rw [b2 j c1, a1 0 j (by decide)]; simp [gi_si, c2]
  · rw [b2 15 (by decide), a1 0 15 (by decide)]; simp [gi_si]
  · rw [b1 2 j (by decide) (by decide)]
    rcases a2 j with h | h
    · left; rw [h]; simp [gi_si]
    · exact Or.inr h
theorem ciF_bd (n : Int32) : 0 ≤ (ciF n).toInt ∧ (ciF n).toInt ≤ 4 := by
  unfold ciF
  split
  · split
    · split
      · split <;> decide
      · decide
    · decide
  · decide
theorem avail_ok (P : Int32) (h1 : 4 ≤ P.toInt) (h2 : P.toInt ≤ 16) : tb (((1 : Int32) <<< (P &&& 31) - 1) &&& (0 ^^^ -1) &&& ((1 : Int32) <<< (P &&& 31) - 1)) 0 ≠ 0 := by
  have key : ∀ n : Fin 17, 4 ≤ n.1 → tb (((1 : Int32) <<< ((Int32.ofNat n.1) &&& 31) - 1) &&& (0 ^^^ -1) &&& ((1 : Int32) <<< ((Int32.ofNat n.1) &&& 31) - 1)) 0 ≠ 0 := by decide
  have e : P = Int32.ofNat P.toInt.toNat := by
    rw [ti_eq, Int32.toInt_ofNat_of_lt (by omega)]; omega
  rw [e]
  exact key ⟨P.toInt.toNat, by omega⟩ (by show 4 ≤ P.toInt.toNat; omega)
theorem p_alloc0 {σ : Sg} {P R n : Int32} (F : FreshH σ P R) (hP1 : 4 ≤ P.toInt) (hP2 : P.toInt ≤ 16) (h1 : 1 ≤ n.toInt) (h2 : n.toInt ≤ 16) : ∃ σ', c_alloc n σ = some (4096, σ') ∧
    (∀ kk j, kk ≠ 0 → kk ≠ 2 → kk ≠ 8 → gi σ' kk j = gi (si (si (si (si σ 3 0 ((1 : Int32) <<< (ciF n &&& 31))) 4 0 (ciF n)) 5 0 1) 6 0 1) kk j) ∧ (∀ j, j ≠ 13 → j ≠ 15 → gi σ' 0 j = gi σ 0 j) ∧ gi σ' 0 15 = 1 ∧ ∀ j, gi σ' 2 j = 0 := by
  obtain ⟨f10, f11, f12, f13, f14, f15, fz⟩ := F
  have e1 : (1 : Int32).toInt = 1 := rfl
  have e16 : (16 : Int32).toInt = 16 := rfl
  have e0 : (0 : Int32).toInt = 0 := rfl
  have e4 : (4 : Int32).toInt = 4 := rfl
  have cb := ciF_bd n
  unfold c_alloc
  rw [if_neg (by rw [ti_lt]; omega), if_neg (by rw [ti_lt]; omega), p_ci, Option.bind_some]
  have hA : c_allocInClassPage (ciF n) σ = some (0, σ) := by
    unfold c_allocInClassPage
    rw [if_neg (by rw [ti_lt]; omega), if_neg (by rw [ti_lt]; omega), if_pos (inbT (by omega) (show (ciF n).toInt < ((5 : Nat) : Int) by omega)), fz 8 _ (by decide)]
    obtain ⟨r, q, h⟩ := p_low 0 σ
    rw [q, Option.bind_some]
    rcases h with ⟨rfl, -⟩ | ⟨a, b, c, -⟩
    · rfl
    · exact absurd (by unfold tb; simp) c
  rw [hA, Option.bind_some, if_pos rfl]
  unfold c_allocInFreshPage c_validPageMask
  simp only [Option.bind_some]
  rw [if_neg (by rw [ti_lt]; omega), if_neg (by rw [ti_lt]; omega), f10, f13, f14]
  obtain ⟨r, q, h⟩ := p_low (((1 : Int32) <<< (P &&& 31) - 1) &&& (0 ^^^ -1) &&& ((1 : Int32) <<< (P &&& 31) - 1)) σ
  have hr : r = 0 := by
    have ok := avail_ok P hP1 hP2
    rcases h with ⟨rfl, h⟩ | ⟨a, b, c, d⟩
    · exact absurd (h 0 (by decide) (by decide)) ok
    · apply Classical.byContradiction
      intro ne
      exact ok (d 0 (by decide) (by
        have : r.toInt ≠ 0 := fun e => ne (ti_eq.mpr e)
        omega))
  subst hr
  rw [q, Option.bind_some]
  rw [if_neg (show ¬ (0 : Int32) < 0 by decide), if_pos (by rw [ti_lt]; show (0 : Int32).toInt < (gi σ 0 10).toInt; rw [f10]; omega), if_pos (show inb (0 : Int32) 16 = true by decide)]
  obtain ⟨σ', q', g1, g2, g3, g4⟩ := p_place 0 0 (si (si (si (si σ 3 (nx 0) ((1 : Int32) <<< (ciF n &&& 31))) 4 (nx 0) (ciF n)) 5 (nx 0) (0 : Int32)) 6 (nx 0) (0 : Int32)) (by decide) (by decide)
  rw [q', Option.bind_some]
  have en : nx 0 = 0 := rfl
  refine ⟨σ', ?_, fun kk j c1 c2 c3 => ?_, fun j c1 c2 => ?_, ?_, fun j => ?_⟩
  · congr 2
    have : ∀ z : Int32, (0 : Int32) <<< z = 0 := fun z => by
      apply Int32.toBitVec_inj.mp
      rw [Int32.toBitVec_shiftLeft]; simp
    rw [this, this]; rfl
  · rw [g1 kk j c1 c2 c3]
    simp only [gi_si, en]
    by_cases k5 : kk = 5
    · subst k5; by_cases j0 : j = 0 <;> simp [j0]
    · by_cases k6 : kk = 6
      · subst k6; by_cases j0 : j = 0 <;> simp [j0]
      · simp [k5, k6]
  · rw [g2 j c1 c2]; simp [gi_si]
  · rw [g3]; simp [gi_si, f15]
  · rcases g4 j with h | h
    · rw [h]; simp [gi_si, fz 2 j (by decide)]
    · exact h
/-! ConservativeBiY: where an address lies -/
def offN (a : Int32) : Nat := (a.toInt - 4096).toNat
def pgN (a : Int32) : Nat := offN a / 16
def wiN (a : Int32) : Nat := offN a % 16
def shN (σ : Sg) (p : Nat) : Nat := (gi σ 4 p).toInt.toNat
def slN (σ : Sg) (a : Int32) : Nat := wiN a / 2 ^ shN σ (pgN a)
def inH (σ : Sg) (a : Int32) : Bool := decide (4096 ≤ a.toInt ∧ a.toInt < 4096 + 16 * (gi σ 0 10).toInt)
def lvB (σ : Sg) (p k : Nat) : Bool := decide (tb (gi σ 5 p) (Int32.ofNat k) ≠ 0)
def inO (σ : Sg) (a : Int32) : Bool := inH σ a && decide (gi σ 3 (pgN a) ≠ 0) && lvB σ (pgN a) (slN σ a)
def stN (σ : Sg) (a : Int32) : Nat := 4096 + 16 * pgN a + slN σ a * 2 ^ shN σ (pgN a)
/-- the figures of the heap are in their bounds -/
def Okh (σ : Sg) : Prop := 4 ≤ (gi σ 0 10).toInt ∧ (gi σ 0 10).toInt ≤ 16 ∧ ∀ p, gi σ 3 p ≠ 0 → 0 ≤ (gi σ 4 p).toInt ∧ (gi σ 4 p).toInt ≤ 4
theorem p_pageOf {σ : Sg} (a : Int32) (H : Okh σ) : c_pageOf a σ = some (if inH σ a = true then Int32.ofNat (pgN a) else -1, σ) := by
  obtain ⟨H1, H2, -⟩ := H
  have e : (4096 : Int32).toInt = 4096 := rfl
  have e4 : (4 : Int32).toInt = ((4 : Nat) : Int) := rfl
  have ahi := ti_hi a
  have hsh : ((gi σ 0 10) <<< ((4 : Int32) &&& 31)).toInt = (gi σ 0 10).toInt * ((2 ^ 4 : Nat) : Int) := ti_shl e4 (by decide) (by omega) (by omega)
  unfold c_pageOf
  by_cases h1 : a < 4096
  · rw [if_pos h1]
    rw [ti_lt] at h1
    rw [if_neg (by simp only [inH, decide_eq_true_eq]; omega)]
  · rw [if_neg h1]
    rw [ti_lt] at h1
    have hs : (a - 4096).toInt = a.toInt - 4096 := by rw [ti_sub (by omega) (by omega), e]
    by_cases h2 : a - 4096 < (gi σ 0 10) <<< ((4 : Int32) &&& 31)
    · rw [if_pos h2]
      rw [ti_lt, hs, hsh] at h2
      rw [if_pos (by simp only [inH, decide_eq_true_eq]; omega)]
      congr 2
      refine eq_ofNat ?_
      rw [ti_shr e4 (by decide), hs]
      unfold pgN offN
      omega
    · rw [if_neg h2]
      rw [ti_lt, hs, hsh] at h2
      rw [if_neg (by simp only [inH, decide_eq_true_eq]; omega)]
theorem inH_bd {σ : Sg} {a : Int32} (H : Okh σ) (h : inH σ a = true) : pgN a < 16 ∧ (pgN a : Int) < (gi σ 0 10).toInt ∧ a.toInt = 4096 + 16 * (pgN a : Int) + wiN a ∧ wiN a < 16 := by
  obtain ⟨H1, H2, -⟩ := H
  simp only [inH, decide_eq_true_eq] at h
  unfold pgN wiN offN
  omega
theorem p_find {σ : Sg} (a : Int32) (H : Okh σ) : c_findStart a σ = some (if inO σ a = true then Int32.ofNat (stN σ a) else 0, σ) := by
  unfold c_findStart
  rw [p_pageOf a H, Option.bind_some]
  by_cases h : inH σ a = true
  · obtain ⟨b1, b2, b3, b4⟩ := inH_bd H h
    have hp : (Int32.ofNat (pgN a)).toInt = (pgN a : Int) := ti_ofNat (by omega)
    have e0 : (0 : Int32).toInt = 0 := rfl
    have e16 : (16 : Int32).toInt = 16 := rfl
    have e15 : (15 : Int32).toInt = 15 := rfl
    have e4 : (4 : Int32).toInt = ((4 : Nat) : Int) := rfl
    have e : (4096 : Int32).toInt = 4096 := rfl
    have hpn : nx (Int32.ofNat (pgN a)) = pgN a := nx_ofNat (by omega)
    have hin : inb (Int32.ofNat (pgN a)) 16 = true := inbT (by omega) (by omega)
    simp only [h, if_true]
    rw [if_neg (by rw [ti_lt]; omega), if_pos hin, hpn]
    by_cases hc : gi σ 3 (pgN a) = 0
    · rw [if_pos hc, if_neg (by simp [inO, hc])]
    · rw [if_neg hc]
      obtain ⟨s1, s2⟩ := H.2.2 _ hc
      have hsN : (gi σ 4 (pgN a)).toInt = (shN σ (pgN a) : Int) := by unfold shN; omega
      have hs4 : shN σ (pgN a) ≤ 4 := by omega
      have hsub : (a - 4096).toInt = a.toInt - 4096 := by rw [ti_sub (by omega) (by have := ti_hi a; omega), e]
      have hshl : ((Int32.ofNat (pgN a)) <<< ((4 : Int32) &&& 31)).toInt = (pgN a : Int) * ((2 ^ 4 : Nat) : Int) := by rw [ti_shl e4 (by decide) (by omega) (by omega), hp]
      have hwi : (a - 4096 - (Int32.ofNat (pgN a)) <<< ((4 : Int32) &&& 31)).toInt = (wiN a : Int) := by rw [ti_sub (by omega) (by omega)]; omega
      have hdiv : slN σ a ≤ wiN a := Nat.div_le_self _ _
      have hslot : (a - 4096 - (Int32.ofNat (pgN a)) <<< ((4 : Int32) &&& 31)) >>> ((gi σ 4 (pgN a)) &&& 31) = Int32.ofNat (slN σ a) := by
        refine eq_ofNat ?_
        rw [ti_shr hsN (by omega), hwi]
        unfold slN
        exact (Int.natCast_ediv _ _).symm
      have hso : c_slotOf a (Int32.ofNat (pgN a)) σ = some (Int32.ofNat (slN σ a), σ) := by
        unfold c_slotOf
        rw [if_neg (by rw [ti_lt, hwi]; omega), if_neg (by rw [ti_lt, hwi]; omega), if_pos hin, hpn, hslot]
      have hsl : (Int32.ofNat (slN σ a)).toInt = (slN σ a : Int) := ti_ofNat (by omega)
      have hlive : c_slotLive (Int32.ofNat (pgN a)) (Int32.ofNat (slN σ a)) σ = some (if lvB σ (pgN a) (slN σ a) = true then 1 else 0, σ) := by
        unfold c_slotLive
        rw [if_neg (by rw [ti_lt]; omega), if_pos (by rw [ti_lt]; omega), if_neg (by rw [ti_lt]; omega), if_pos (by rw [ti_lt]; omega), if_pos hin, hpn]
        unfold lvB
        by_cases q : tb (gi σ 5 (pgN a)) (Int32.ofNat (slN σ a)) = 0
        · rw [if_pos (by exact q)]; simp [q]
        · rw [if_neg (by exact q)]; simp [q]
      rw [hso, Option.bind_some, hlive, Option.bind_some]
      have hpow : 2 ^ shN σ (pgN a) ≤ 16 := by
        have : shN σ (pgN a) ≤ 4 := hs4
        calc 2 ^ shN σ (pgN a) ≤ 2 ^ 4 := Nat.pow_le_pow_right (by decide) this
          _ = 16 := by decide
      have hmul : slN σ a * 2 ^ shN σ (pgN a) ≤ wiN a := by unfold slN; exact Nat.div_mul_le_self _ _
      by_cases hl : lvB σ (pgN a) (slN σ a) = true
      · simp only [hl, if_true]
        rw [if_neg (by decide)]
        unfold c_slotStart
        rw [if_pos hin, hpn, Option.bind_some, if_pos (by simp [inO, h, hc, hl])]
        congr 2
        refine eq_ofNat ?_
        have hk : ((Int32.ofNat (slN σ a)) <<< ((gi σ 4 (pgN a)) &&& 31)).toInt = ((slN σ a * 2 ^ shN σ (pgN a) : Nat) : Int) := by
          rw [ti_shl hsN (by omega) (by rw [hsl, ← Int.natCast_mul]; omega) (by rw [hsl, ← Int.natCast_mul]; omega), hsl, Int.natCast_mul]
        have h1 : ((4096 : Int32) + (Int32.ofNat (pgN a)) <<< ((4 : Int32) &&& 31)).toInt = 4096 + 16 * (pgN a : Int) := by rw [ti_add (by omega) (by omega), hshl, e]; omega
        rw [ti_add (by omega) (by omega), h1, hk]
        unfold stN
        omega
      · simp only [hl, if_false, Bool.false_eq_true]
        rw [if_pos trivial, if_neg (by simp [inO, hl])]
  · have h' : inH σ a = false := by simpa using h
    simp only [h', Bool.false_eq_true, if_false]
    rw [if_pos (by decide), if_neg (by simp [inO, h'])]
theorem p_pv (x : Int32) (σ : Sg) : c_pageValid x σ = some (if x < 0 then 0 else if x < gi σ 0 10 then (if x < 16 then 1 else 0) else 0, σ) := by
  unfold c_pageValid
  split
  · rfl
  · split
    · split <;> rfl
    · rfl
/-- a heap whose page 0 holds at most one object, of 2 ^ s words -/
def One (σ : Sg) (P : Int32) (ok : Bool) (s : Nat) : Prop := gi σ 0 10 = P ∧ s ≤ 4 ∧ (∀ p, p ≠ 0 → gi σ 3 p = 0) ∧ (ok = false → gi σ 3 0 = 0 ∧ gi σ 6 0 = 0 ∧ gi σ 0 15 = 0) ∧ (ok = true → gi σ 3 0 = Int32.ofNat (2 ^ s) ∧ gi σ 4 0 = Int32.ofNat s ∧ gi σ 5 0 = 1 ∧ gi σ 6 0 = 1 ∧ gi σ 0 15 = 1)
theorem One.okh {σ : Sg} {P : Int32} {ok : Bool} {s : Nat} (O : One σ P ok s) (h1 : 4 ≤ P.toInt) (h2 : P.toInt ≤ 16) : Okh σ := by
  obtain ⟨o1, o2, o3, o4, o5⟩ := O
  refine ⟨by rw [o1]; exact h1, by rw [o1]; exact h2, fun p hp => ?_⟩
  have p0 : p = 0 := Classical.byContradiction fun q => hp (o3 p q)
  subst p0
  cases ok with
  | false => exact absurd (o4 rfl).1 hp
  | true => rw [(o5 rfl).2.1, ti_ofNat (by omega)]; omega
def insd (ok : Bool) (s : Nat) (a : Int32) : Bool := ok && decide (4096 ≤ a.toInt ∧ a.toInt < 4096 + ((2 ^ s : Nat) : Int))
theorem pow_le16 {s : Nat} (h : s ≤ 4) : 2 ^ s ≤ 16 ∧ 1 ≤ 2 ^ s := by
  match s, h with
  | 0, _ => decide
  | 1, _ => decide
  | 2, _ => decide
  | 3, _ => decide
  | 4, _ => decide
theorem tb1 (k : Nat) (h : k < 16) : tb 1 (Int32.ofNat k) ≠ 0 ↔ k = 0 := by
  have key : ∀ k : Fin 16, tb 1 (Int32.ofNat k.1) ≠ 0 ↔ k.1 = 0 := by decide
  exact key ⟨k, h⟩
theorem One.find {σ : Sg} {P : Int32} {ok : Bool} {s : Nat} (O : One σ P ok s) (h1 : 4 ≤ P.toInt) (h2 : P.toInt ≤ 16) (a : Int32) : c_findStart a σ = some (if insd ok s a = true then 4096 else 0, σ) := by
  rw [p_find a (O.okh h1 h2)]
  obtain ⟨o1, o2, o3, o4, o5⟩ := O
  have hp := pow_le16 o2
  have hH := fun h => inH_bd (a := a) (One.okh ⟨o1, o2, o3, o4, o5⟩ h1 h2) h
  by_cases hi : inO σ a = true
  · have hi' := hi
    simp only [inO, Bool.and_eq_true, decide_eq_true_eq] at hi'
    obtain ⟨⟨i1, i2⟩, i3⟩ := hi'
    obtain ⟨b1, b2, b3, b4⟩ := hH i1
    have p0 : pgN a = 0 := Classical.byContradiction fun q => i2 (o3 _ q)
    rw [p0] at i2 i3 b3
    cases ok with
    | false => exact absurd (o4 rfl).1 i2
    | true =>
      obtain ⟨q1, q2, q3, -⟩ := o5 rfl
      have hs : shN σ 0 = s := by unfold shN; rw [q2, ti_ofNat (by omega)]; rfl
      have hsl : slN σ a = wiN a / 2 ^ s := by unfold slN; rw [p0, hs]
      have hlt : slN σ a < 16 := by have := Nat.div_le_self (wiN a) (2 ^ s); omega
      have hz : slN σ a = 0 := by
        simp only [lvB, decide_eq_true_eq, q3] at i3
        exact (tb1 _ hlt).mp i3
      have hw : wiN a < 2 ^ s := by
        rw [hsl] at hz
        exact (Nat.div_eq_zero_iff_lt (by omega)).mp hz
      rw [if_pos hi, if_pos (by simp only [insd, Bool.true_and, decide_eq_true_eq]; omega)]
      congr 2
      unfold stN
      rw [p0, hz, Nat.zero_mul]; rfl
  · rw [if_neg hi, if_neg]
    intro hq
    simp only [insd, Bool.and_eq_true, decide_eq_true_eq] at hq
    obtain ⟨k1, k2, k3⟩ := hq
    subst k1
    obtain ⟨q1, q2, q3, -⟩ := o5 rfl
    apply hi
    have i1 : inH σ a = true := by simp only [inH, decide_eq_true_eq, o1]; omega
    obtain ⟨b1, b2, b3, b4⟩ := hH i1
    have hs : shN σ 0 = s := by unfold shN; rw [q2, ti_ofNat (by omega)]; rfl
    have p0 : pgN a = 0 := by unfold pgN offN; omega
    have hw : wiN a < 2 ^ s := by rw [p0] at b3; omega
    have hz : slN σ a = 0 := by unfold slN; rw [p0, hs]; exact (Nat.div_eq_zero_iff_lt (by omega)).mpr hw
    simp only [inO, i1, Bool.true_and, Bool.and_eq_true, decide_eq_true_eq]
    refine ⟨?_, ?_⟩
    · rw [p0, q1]; intro hq; rw [ti_eq, ti_ofNat (by omega)] at hq; have : (0 : Int32).toInt = 0 := rfl; omega
    · simp only [lvB, decide_eq_true_eq]; rw [p0, q3, hz]; decide
theorem One.load {σ : Sg} {P : Int32} {ok : Bool} {s : Nat} (O : One σ P ok s) (h1 : 4 ≤ P.toInt) (h2 : P.toInt ≤ 16) (a : Int32) : c_load a σ = some (if insd ok s a = true then gi σ 2 (nx (a - 4096)) else 0, σ) := by
  have hp := pow_le16 O.2.1
  unfold c_load
  rw [O.find h1 h2, Option.bind_some]
  by_cases hi : insd ok s a = true
  · simp only [hi, if_true]
    simp only [insd, Bool.and_eq_true, decide_eq_true_eq] at hi
    have e : (4096 : Int32).toInt = 4096 := rfl
    have e0 : (0 : Int32).toInt = 0 := rfl
    have e256 : (256 : Int32).toInt = 256 := rfl
    have hs : (a - 4096).toInt = a.toInt - 4096 := by rw [ti_sub (by omega) (by omega), e]
    rw [if_neg (by decide), if_neg (by rw [ti_lt]; omega), if_pos (by rw [ti_lt]; omega), if_pos (inbT (by omega) (show (a - 4096).toInt < ((256 : Nat) : Int) by omega))]
  · simp only [hi, if_false, Bool.false_eq_true, if_true]
theorem One.store {σ : Sg} {P : Int32} {ok : Bool} {s : Nat} (O : One σ P ok s) (h1 : 4 ≤ P.toInt) (h2 : P.toInt ≤ 16) (a v : Int32) : c_store a v σ = some (if insd ok s a = true then (1, si σ 2 (nx (a - 4096)) v) else (0, σ)) := by
  have hp := pow_le16 O.2.1
  unfold c_store
  rw [O.find h1 h2, Option.bind_some]
  by_cases hi : insd ok s a = true
  · simp only [hi, if_true]
    simp only [insd, Bool.and_eq_true, decide_eq_true_eq] at hi
    have e : (4096 : Int32).toInt = 4096 := rfl
    have e0 : (0 : Int32).toInt = 0 := rfl
    have e256 : (256 : Int32).toInt = 256 := rfl
    have hs : (a - 4096).toInt = a.toInt - 4096 := by rw [ti_sub (by omega) (by omega), e]
    rw [if_neg (by decide), if_neg (by rw [ti_lt]; omega), if_pos (by rw [ti_lt]; omega), if_pos (inbT (by omega) (show (a - 4096).toInt < ((256 : Nat) : Int) by omega))]
  · simp only [hi, if_false, Bool.false_eq_true, if_true]
theorem One.size {σ : Sg} {P : Int32} {ok : Bool} {s : Nat} (O : One σ P ok s) (h1 : 4 ≤ P.toInt) (h2 : P.toInt ≤ 16) (a : Int32) : c_objectSize a σ = some (if insd ok s a = true then Int32.ofNat (2 ^ s) else 0, σ) := by
  have hp := pow_le16 O.2.1
  unfold c_objectSize
  rw [O.find h1 h2, Option.bind_some]
  by_cases hi : insd ok s a = true
  · simp only [hi, if_true]
    simp only [insd, Bool.and_eq_true, decide_eq_true_eq] at hi
    obtain ⟨k1, k2⟩ := hi
    have i1 : inH σ a = true := by simp only [inH, decide_eq_true_eq, O.1]; omega
    have p0 : pgN a = 0 := by unfold pgN offN; omega
    rw [if_neg (by decide), p_pageOf a (O.okh h1 h2), Option.bind_some, i1, p0]
    rw [if_pos rfl, if_neg (show ¬ (Int32.ofNat 0 : Int32) < 0 by decide), if_pos (show inb (Int32.ofNat 0 : Int32) 16 = true by decide)]
    exact congrArg (fun z => some (z, σ)) (O.2.2.2.2 k1).1
  · simp only [hi, if_false, Bool.false_eq_true, if_true]
theorem law121 {σ : Sg} {P : Int32} {ok : Bool} {s : Nat} (O : One σ P ok s) (hz : ∀ j, gi σ 2 j = 0) (h1 : 4 ≤ P.toInt) (h2 : P.toInt ≤ 16) (a v x6 x7 s0 : Int32) (h6 : x6 = if ok = true then 1 else 0) (h7 : ok = true → x7 = Int32.ofNat (2 ^ s)) (h8 : s0 = if insd ok s a = true then 1 else 0) : ∃ σ', q_law_121 a v x6 x7 s0 σ = some (1, σ') := by
  have hp := pow_le16 O.2.1
  have hpv : ∀ τ : Sg, gi τ 0 10 = P → c_pageValid 0 τ = some (1, τ) := by
    intro τ ht
    have : (0 : Int32) < P := by rw [ti_lt]; show (0 : Int) < P.toInt; omega
    rw [p_pv, ht]; simp [this]
  have hcls : gi σ 3 0 = if ok = true then x7 else 0 := by
    cases ok with
    | true => rw [(O.2.2.2.2 rfl).1, h7 rfl]; rfl
    | false => rw [(O.2.2.2.1 rfl).1]; rfl
  have hcnt : gi σ 6 0 = if ok = true then 1 else 0 := by
    cases ok with
    | true => rw [(O.2.2.2.2 rfl).2.2.2.1]; rfl
    | false => rw [(O.2.2.2.1 rfl).2.1]; rfl
  have hlive : gi σ 0 15 = if ok = true then 1 else 0 := by
    cases ok with
    | true => rw [(O.2.2.2.2 rfl).2.2.2.2]; rfl
    | false => rw [(O.2.2.2.1 rfl).2.2]; rfl
  have e : (4096 : Int32).toInt = 4096 := rfl
  have i4096 : insd ok s 4096 = ok := by
    cases ok with
    | true => simp only [insd, Bool.true_and, decide_eq_true_eq]; omega
    | false => rfl
  have n0 : nx (0 : Int32) = 0 := rfl
  unfold q_law_121
  rw [O.store h1 h2, Option.bind_some]
  by_cases hi : insd ok s a = true
  · have hok : ok = true := by simp only [insd, Bool.and_eq_true] at hi; exact hi.1
    subst hok
    have O' : One (si σ 2 (nx (a - 4096)) v) P true s := by
      obtain ⟨o1, o2, o3, o4, o5⟩ := O
      exact ⟨by simpa [gi_si] using o1, o2, fun p hp => by simpa [gi_si] using o3 p hp, fun q => (by cases q), fun q => by simpa [gi_si] using o5 q⟩
    simp only [hi, if_true] at h8 ⊢
    subst h8
    simp only [if_true] at h6 hcls hcnt hlive
    subst h6
    rw [if_pos rfl, O'.load h1 h2, Option.bind_some]
    simp only [hi, if_true]
    rw [if_neg (by decide), gi_si, if_pos ⟨rfl, rfl⟩]
    have hld := O'.load h1 h2 4096
    rw [i4096] at hld
    simp only [if_true] at hld
    have n4 : nx ((4096 : Int32) - 4096) = 0 := rfl
    rw [n4] at hld
    simp only [q_law_155, if_true, c_objectStart, O'.find h1 h2, Option.bind_some, hi, q_law_178, O'.size h1 h2, h7 rfl, q_law_200, c_pageClass, hpv _ O'.1, c_pageLiveCount, q_law_222, q_law_243, c_liveObjects, q_law_263, hld]
    have g1 : gi (si σ 2 (nx (a - 4096)) v) 3 (nx 0) = x7 := by rw [n0, gi_si, if_neg (by simp)]; exact hcls
    have g2 : gi (si σ 2 (nx (a - 4096)) v) 6 (nx 0) = 1 := by rw [n0, gi_si, if_neg (by simp)]; exact hcnt
    have g3 : gi (si σ 2 (nx (a - 4096)) v) 0 15 = 1 := by rw [gi_si, if_neg (by simp)]; exact hlive
    simp only [Option.bind_some, hpv _ O'.1, hld, g1, g2, g3, h7 rfl, show inb (0 : Int32) 16 = true by decide, if_true, show ¬ (1 : Int32) = 0 by decide, if_false]
    by_cases ha : a = 4096
    · subst ha
      rw [if_pos rfl]
      unfold q_law_298
      rw [n4, if_pos (show gi (si σ 2 0 v) 2 0 = v by rw [gi_si, if_pos ⟨rfl, rfl⟩])]
      exact ⟨_, rfl⟩
    · rw [if_neg ha]
      have hne : nx (a - 4096) ≠ 0 := by
        simp only [insd, Bool.and_eq_true, decide_eq_true_eq] at hi
        have hs : (a - 4096).toInt = a.toInt - 4096 := by rw [ti_sub (by omega) (by omega), e]
        have : a.toInt ≠ 4096 := fun q => ha (ti_eq.mpr q)
        unfold nx
        omega
      unfold q_law_297 q_law_298
      rw [if_pos (show gi (si σ 2 (nx (a - 4096)) v) 2 0 = 0 by rw [gi_si, if_neg (fun q => hne q.2.symm), hz])]
      exact ⟨_, rfl⟩
  · simp only [hi, if_false, Bool.false_eq_true] at h8 ⊢
    subst h8
    rw [if_pos rfl, O.load h1 h2, Option.bind_some]
    simp only [hi, if_false, if_true, Bool.false_eq_true]
    have hld := O.load h1 h2 4096
    rw [i4096] at hld
    have hld' : c_load 4096 σ = some (0, σ) := by
      rw [hld]
      split
      · rw [hz]
      · rfl
    simp only [q_law_155, if_true, c_objectStart, O.find h1 h2, Option.bind_some, hi, if_false, Bool.false_eq_true, q_law_178, O.size h1 h2, q_law_200, c_pageClass, hpv _ O.1, c_pageLiveCount, q_law_222, q_law_243, c_liveObjects, q_law_263, hld', q_law_297, q_law_298, n0, hcls, hcnt, hlive, h6]
    cases ok with
    | true => simp [show inb (0 : Int32) 16 = true by decide, hpv _ O.1, hld', n0, hcnt, hlive, hcls]
    | false => simp [show inb (0 : Int32) 16 = true by decide, hpv _ O.1, hld', n0, hcnt, hlive, hcls]
theorem law89 {σ : Sg} {P : Int32} {ok : Bool} {s : Nat} (O : One σ P ok s) (hz : ∀ j, gi σ 2 j = 0) (h1 : 4 ≤ P.toInt) (h2 : P.toInt ≤ 16) (a v x6 x7 s0 : Int32) (h6 : x6 = if ok = true then 1 else 0) (h7 : ok = true → x7 = Int32.ofNat (2 ^ s)) : ∃ σ', q_law_89 a v x6 x7 s0 s0 σ = some (1, σ') := by
  have hp := pow_le16 O.2.1
  unfold q_law_89 q_law_120
  rw [if_pos rfl]
  cases ok with
  | false =>
    subst h6
    rw [if_pos (show (if false = true then (1 : Int32) else 0) = 0 from rfl)]
    exact law121 O hz h1 h2 a v _ _ _ rfl h7 rfl
  | true =>
    subst h6
    rw [if_neg (show ¬ (if true = true then (1 : Int32) else 0) = 0 by decide)]
    have e : (4096 : Int32).toInt = 4096 := rfl
    have hx : ((4096 : Int32) + x7).toInt = 4096 + ((2 ^ s : Nat) : Int) := by
      rw [h7 rfl, ti_add (by rw [ti_ofNat (by omega)]; omega) (by rw [ti_ofNat (by omega)]; omega), ti_ofNat (by omega), e]
    by_cases c1 : a < 4096
    · rw [if_pos c1]
      refine law121 O hz h1 h2 a v _ _ _ rfl h7 ?_
      rw [ti_lt] at c1
      rw [if_neg (by simp only [insd, Bool.true_and, decide_eq_true_eq]; omega)]
    · rw [if_neg c1]
      by_cases c2 : a < 4096 + x7
      · rw [if_pos c2]
        refine law121 O hz h1 h2 a v _ _ _ rfl h7 ?_
        rw [ti_lt] at c1 c2
        rw [if_pos (by simp only [insd, Bool.true_and, decide_eq_true_eq]; omega)]
      · rw [if_neg c2]
        refine law121 O hz h1 h2 a v _ _ _ rfl h7 ?_
        rw [ti_lt] at c1 c2
        rw [if_neg (by simp only [insd, Bool.true_and, decide_eq_true_eq]; omega)]
theorem ciF_nat (n : Int32) : ciF n = Int32.ofNat (nx (ciF n)) ∧ nx (ciF n) ≤ 4 ∧ (1 : Int32) <<< (ciF n &&& 31) = Int32.ofNat (2 ^ nx (ciF n)) := by
  unfold ciF
  split
  · split
    · split
      · split <;> decide
      · decide
    · decide
  · decide
theorem law27 {σ : Sg} {P R : Int32} (F : FreshH σ P R) (h1 : 4 ≤ P.toInt) (h2 : P.toInt ≤ 16) (n a v : Int32) (okn : Bool) (hn : okn = true ↔ 1 ≤ n.toInt ∧ n.toInt ≤ 16) : ∃ σ', q_law_27 n a v (if okn = true then 1 else 0) σ = some (1, σ') := by
  have key : ∀ x7, (okn = true → x7 = (1 : Int32) <<< (ciF n &&& 31)) → ∃ σ', q_law_69 n a v (if okn = true then 1 else 0) x7 σ = some (1, σ') := by
    intro x7 hx
    obtain ⟨c1, c2, c3⟩ := ciF_nat n
    unfold q_law_69
    cases okn with
    | true =>
      obtain ⟨n1, n2⟩ := hn.mp rfl
      obtain ⟨σ', q, g1, g2, g3, g4⟩ := p_alloc0 F h1 h2 n1 n2
      rw [q, Option.bind_some]
      simp only [if_true, show ¬ (1 : Int32) = 0 by decide, if_false]
      have O : One σ' P true (nx (ciF n)) := by
        refine ⟨by rw [g2 10 (by decide) (by decide)]; exact F.1, c2, fun p hp => ?_, fun q => (by cases q), fun _ => ⟨?_, ?_, ?_, ?_, g3⟩⟩
        · rw [g1 3 p (by decide) (by decide) (by decide)]; simp [gi_si, hp, F.2.2.2.2.2.2 3 p (by decide)]
        · rw [g1 3 0 (by decide) (by decide) (by decide), ← c3]; simp [gi_si]
        · rw [g1 4 0 (by decide) (by decide) (by decide), ← c1]; simp [gi_si]
        · rw [g1 5 0 (by decide) (by decide) (by decide)]; simp [gi_si]
        · rw [g1 6 0 (by decide) (by decide) (by decide)]; simp [gi_si]
      exact law89 O g4 h1 h2 a v 1 x7 4096 rfl (fun _ => by rw [hx rfl, c3])
    | false =>
      have hal : c_alloc n σ = some (0, σ) := by
        have hnn : ¬ (1 ≤ n.toInt ∧ n.toInt ≤ 16) := fun q => by have := hn.mpr q; cases this
        have e1 : (1 : Int32).toInt = 1 := rfl
        have e16 : (16 : Int32).toInt = 16 := rfl
        unfold c_alloc
        by_cases a1 : n < 1
        · rw [if_pos a1]
        · rw [ti_lt] at a1
          rw [if_neg (by rw [ti_lt]; exact a1), if_pos (by rw [ti_lt]; omega)]
      rw [hal, Option.bind_some]
      simp only [Bool.false_eq_true, if_false, if_true]
      have O : One σ P false 0 := ⟨F.1, by decide, fun p _ => F.2.2.2.2.2.2 3 p (by decide), fun _ => ⟨F.2.2.2.2.2.2 3 0 (by decide), F.2.2.2.2.2.2 6 0 (by decide), F.2.2.2.2.2.1⟩, fun q => (by cases q)⟩
      exact law89 O (fun j => F.2.2.2.2.2.2 2 j (by decide)) h1 h2 a v 0 x7 0 rfl (fun q => (by cases q))
  unfold q_law_27
  by_cases a1 : 1 < n
  · rw [if_pos a1]
    by_cases a2 : 2 < n
    · rw [if_pos a2]
      by_cases a3 : 4 < n
      · rw [if_pos a3]
        by_cases a4 : 8 < n
        · rw [if_pos a4]; exact key 16 (fun _ => by unfold ciF; rw [if_pos a1, if_pos a2, if_pos a3, if_pos a4]; decide)
        · rw [if_neg a4]; exact key 8 (fun _ => by unfold ciF; rw [if_pos a1, if_pos a2, if_pos a3, if_neg a4]; decide)
      · rw [if_neg a3]; exact key 4 (fun _ => by unfold ciF; rw [if_pos a1, if_pos a2, if_neg a3]; decide)
    · rw [if_neg a2]; exact key 2 (fun _ => by unfold ciF; rw [if_pos a1, if_neg a2]; decide)
  · rw [if_neg a1]; exact key 1 (fun _ => by unfold ciF; rw [if_neg a1]; decide)
theorem law_true (x0 x1 x2 x3 x4 : Int32) : ∃ σ, q_law x0 x1 x2 x3 x4 = some (1, σ) := by
  obtain ⟨σ, q, F⟩ := p_init x0 x1
  have bd := clp_bd (x := x0) (lo := 4) (hi := 16) (by decide)
  have e1 : (1 : Int32).toInt = 1 := rfl
  have e16 : (16 : Int32).toInt = 16 := rfl
  unfold q_law q_law_26
  rw [q, Option.bind_some]
  by_cases a : x2 < 1
  · rw [if_pos a]; exact law27 F bd.1 bd.2 x2 x3 x4 false (by rw [ti_lt] at a; simp; omega)
  · rw [if_neg a]
    by_cases b : 16 < x2
    · rw [if_pos b]; exact law27 F bd.1 bd.2 x2 x3 x4 false (by rw [ti_lt] at b; simp; omega)
    · rw [if_neg b]; exact law27 F bd.1 bd.2 x2 x3 x4 true (by rw [ti_lt] at a b; simp; omega)
set_option maxRecDepth 65536 in
set_option maxHeartbeats 40000000 in
theorem comes_1 {Post : Tables → Env → Array Value → State → Outcome → State → Prop} (hpost : ∀ tb e args s v u, (limb_1_1.after args s (.returned v) u = true ∧ limb_1_2.after args s (.returned v) u = true ∧ True) → FrameEnd s (.returned v) u (Jvm.fieldLocs frame_1_writes args s ++ Jvm.arrayLocs frame_1_arrays args s ++ Jvm.staticLocs frame_1_statics s) 32 1408 → Post tb e args s (.returned v) u) :
    ArmFor flags0 classFile x code maxLocals ret World_1 tables_1 room_1 Calls_1 rest_1 Pre_1 Post := by
  intro l hfl _ _ p e ha hc hk s m args below hf hA hF happ hP
  obtain ⟨hcalls, hrest, hpre⟩ := hP
  obtain ⟨-, -, -, hnamed, -, -, -, hat⟩ := (Spec.applies_iff hf).mp happ
  obtain ⟨hg, hn⟩ := and_e (Cond.before_iff.mp (show (Jvm.Cond.and given_1 narrow_1).before args s = true from hpre))
  obtain ⟨g0, g1⟩ := and_e hg
  obtain ⟨w0, w1, w2, w3, w4, rfl⟩ : ∃ w0 w1 w2 w3 w4 : Value, args = #[w0, w1, w2, w3, w4] := by
    have hs : args.size = 5 := by simpa [Cond.value, given_1] using g0
    obtain ⟨L⟩ := args
    match L, hs with
    | [w0, w1, w2, w3, w4], _ => exact ⟨w0, w1, w2, w3, w4, rfl⟩
  have hw : WH _ s := fun d (hd : d ∈ tables_1) => atoms_spec (ws := Jvm.Cond.code x code maxLocals ret :: tables_1) hat d (List.mem_cons_of_mem _ hd)
  have hfit : Fit s := fun {y c} hc i hi => by
    obtain ⟨ha, rfl⟩ := Array.getElem?_eq_some_iff.mp hc
    have q := List.all_eq_true.mp ((Array.all_eq_true_iff_forall_mem.mp hF) _ (Array.getElem_mem ha)) i (List.mem_range.mpr hi)
    simpa [Array.getElem?_eq_getElem hi] using q
  obtain ⟨q0, r0⟩ := and_e g1
  obtain ⟨i0, e0⟩ := is_v q0
  obtain rfl : w0 = (.int i0) := Option.some.inj e0
  obtain ⟨q1, r1⟩ := and_e r0
  obtain ⟨i1, e1⟩ := is_v q1
  obtain rfl : w1 = (.int i1) := Option.some.inj e1
  obtain ⟨q2, r2⟩ := and_e r1
  obtain ⟨i2, e2⟩ := is_v q2
  obtain rfl : w2 = (.int i2) := Option.some.inj e2
  obtain ⟨q3, r3⟩ := and_e r2
  obtain ⟨i3, e3⟩ := is_v q3
  obtain rfl : w3 = (.int i3) := Option.some.inj e3
  obtain ⟨i4, e4⟩ := is_v r3
  obtain rfl : w4 = (.int i4) := Option.some.inj e4
  obtain ⟨σ', hlaw⟩ := law_true i0 i1 i2 i3 i4
  have hM := am_met (l := l) (ws := tables_1) (y := x) (bytes := code) (maxL := maxLocals) (ret := ret) (rm := room_1) (as := [.int i0, .int i1, .int i2, .int i3, .int i4]) (A := fun _ => 0) (w := fun _ => none) (σ := zs) (h := s.heap) (n0 := s.heap.size) (F := FL) (C := "ConservativeBiY") (fs := fsC) (Z := s) (t := q_law i0 i1 i2 i3 i4) pnL hlaw ⟨fun k d q => (by cases q), fun k k' d d' q => (by cases q)⟩ (fun k d q => (by cases q)) (fun p e s' m below meth c hc => ok_q_law hw (fun k d q => (by cases q)) (Nat.le_refl _) hc i0 i1 i2 i3 i4)
  obtain ⟨n, o, h1, h2, h3, _, L, rfl, ⟨hv, N⟩, hq⟩ := hM p e ha hc hk s m _ below hf ((Spec.applies_iff_loose hf).mp happ).1 ⟨rfl, State.Warmed39.refl s, rfl⟩ trivial
  cases hv
  refine ⟨n, _, h1, h2, h3, hpost _ _ _ _ _ _ ⟨Cond.after_iff.mpr rfl, Cond.after_iff.mpr (eq_i res_at (Term.int_eval (1)) rfl), trivial⟩ ⟨hq.1, hq.2.1, (hq.2.2.sift fun y hy => Or.inr (N y hy)).mono (by decide) (by decide)⟩⟩
theorem main_1_1 : Claimed_1_1 := comes_1 fun _ _ _ _ _ _ h hF => ⟨h.1, hF⟩
theorem main_1_2 : Claimed_1_2 := comes_1 fun _ _ _ _ _ _ h hF => ⟨h.2.1, hF⟩
end Jvm.Pilot.@@N@@
namespace Jvm.Pilot.@@N@@
open Jvm Jvm.ClassFile Sem Op Lib Jvm.Free Jvm.Stand Jvm.Pilot.@@N@@.Jvm.D
/-! MADE BY PROGRAM (witnessworld.py) out of the Statement's table words and the real class files: 11 classes; the members and pool entries that the words name. The judged class is class 1, her method 1. -/
namespace start1
open Jvm.ClassFile
def u (s : String) : CpInfo := .utf8 (stringToUtf16 s)
/-- a pool by its gaps: so many unusable entries, then the entry; so many at the end -/
def gap : Nat → List CpInfo → List CpInfo
  | 0, r => r
  | n + 1, r => .unusable :: gap n r
def poolList (es : List (Nat × CpInfo)) (last : Nat) : List CpInfo := es.foldr (fun e r => gap e.1 (e.2 :: r)) (gap last [])
def pool (es : List (Nat × CpInfo)) (last : Nat) : Array CpInfo := ⟨poolList es last⟩
def fileOf (pool : Array CpInfo) (this : Nat) (attrs : Array Attribute := #[]) (ms : Array MethodInfo := #[]) (fl : Nat := 33) (sup : Nat := 0) (ifs : Array Nat := #[]) (fds : Array FieldInfo := #[]) : ClassFile where
  minorVersion := 0
  majorVersion := 65
  constantPool := pool
  accessFlags := fl
  thisClass := this
  superClass := sup
  interfaces := ifs
  fields := fds
  methods := ms
  attributes := attrs
def plain (name : String) (sup : Option ClassId) : Class where
  name := name
  kind := .ordinary
  loader := none
  accessFlags := 33
  super := sup
  interfaces := #[]
  cf := none
  fields := #[]
  methods := #[]
  instanceTypes := #[]
  staticTypes := #[]
  resolved := #[]
  callSites := []
  init := .initialized
  statics := none
  mirror := none

def pool0 : Array CpInfo := pool [(5, u "<init>"), (0, u "()V"), (1, .class_ 10), (1, u "java/lang/Object")] 113

def k0c0 : Code := { maxStack := 0, maxLocals := 1, code := object_method_1_code, exceptionTable := #[], attributes := #[] }
def k0m0 : Method := { name := "<init>", desc := "()V", sig := { parameters := [], returnType := none }, accessFlags := 1, code := some k0c0 }
/-- java/lang/Object -/
def k0 : Class := { plain "java/lang/Object" none with
  accessFlags := 33
  interfaces := #[]
  cf := some (fileOf pool0 8 #[] #[{ accessFlags := 1, nameIndex := 5, descriptorIndex := 6, attributes := #[] }] 33 0 #[] #[])
  fields := #[]
  methods := #[k0m0]
  instanceTypes := #[]
  staticTypes := #[]
  resolved := Array.replicate 124 none
  statics := none }

def pool1 : Array CpInfo := pool [(2, .class_ 4), (1, u "java/lang/Object"), (0, u "<init>"), (0, u "()V"), (0, .class_ 8), (0, u "ConservativeBiY"), (0, .methodref 7 10), (0, .nameAndType 5 11), (0, u "(II)V"), (0, .methodref 7 13), (0, .nameAndType 14 15), (0, u "alloc"), (0, u "(I)I"), (0, .methodref 7 17), (0, .nameAndType 18 19), (0, u "store"), (0, u "(II)Z"), (0, .methodref 7 21), (0, .nameAndType 22 15), (0, u "load"), (0, .methodref 7 24), (0, .nameAndType 25 15), (0, u "objectStart"), (0, .methodref 7 27), (0, .nameAndType 28 15), (0, u "objectSize"), (0, .methodref 7 30), (0, .nameAndType 31 15), (0, u "pageClass"), (0, .methodref 7 33), (0, .nameAndType 34 15), (0, u "pageLiveCount"), (0, .methodref 7 36), (0, .nameAndType 37 38), (0, u "liveObjects"), (0, u "()I"), (0, .class_ 40), (0, u "ConservativeBiYL2"), (2, u "law"), (0, u "(IIIII)Z")] 3

def k1m0 : Method := { name := "<init>", desc := "()V", sig := { parameters := [], returnType := none }, accessFlags := 1, code := none }
def k1c1 : Code := { maxStack := 4, maxLocals := 10, code := code, exceptionTable := #[], attributes := #[] }
def k1m1 : Method := { name := "law", desc := "(IIIII)Z", sig := { parameters := [.int, .int, .int, .int, .int], returnType := some .boolean }, accessFlags := 9, code := some k1c1 }
/-- ConservativeBiYL2 -/
def k1 : Class := { plain "ConservativeBiYL2" (some 0) with
  accessFlags := 33
  interfaces := #[]
  cf := some (fileOf pool1 39 #[] #[{ accessFlags := 1, nameIndex := 5, descriptorIndex := 6, attributes := #[] }, { accessFlags := 9, nameIndex := 43, descriptorIndex := 44, attributes := #[] }] 33 2 #[] #[])
  fields := #[]
  methods := #[k1m0, k1m1]
  instanceTypes := #[]
  staticTypes := #[]
  resolved := Array.replicate 48 none
  statics := none }

def pool2 : Array CpInfo := pool [(1, .methodref 2 3), (0, .class_ 4), (0, .nameAndType 5 6), (0, u "java/lang/Object"), (0, u "<init>"), (0, u "()V"), (0, .fieldref 8 9), (0, .class_ 10), (0, .nameAndType 11 12), (0, u "ConservativeBiY"), (0, u "roots"), (0, u "[I"), (0, .fieldref 8 14), (0, .nameAndType 15 12), (0, u "heap"), (0, .fieldref 8 17), (0, .nameAndType 18 12), (0, u "pageCls"), (0, .fieldref 8 20), (0, .nameAndType 21 12), (0, u "pageShift"), (0, .fieldref 8 23), (0, .nameAndType 24 12), (0, u "liveMask"), (0, .fieldref 8 26), (0, .nameAndType 27 12), (0, u "liveCnt"), (0, .fieldref 8 29), (0, .nameAndType 30 31), (0, u "black"), (0, u "[Z"), (0, .fieldref 8 33), (0, .nameAndType 34 12), (0, u "classPages"), (0, .fieldref 8 36), (0, .nameAndType 37 12), (0, u "markMask"), (0, .fieldref 8 39), (0, .nameAndType 40 12), (0, u "markStack"), (0, .fieldref 8 42), (0, .nameAndType 43 44), (0, u "pageCount"), (0, u "I"), (0, .fieldref 8 46), (0, .nameAndType 47 44), (0, u "rootCap"), (0, .fieldref 8 49), (0, .nameAndType 50 44), (0, u "depth"), (0, .methodref 8 52), (0, .nameAndType 53 54), (0, u "validPageMask"), (0, u "()I"), (0, .fieldref 8 56), (0, .nameAndType 57 44), (0, u "freePages"), (0, .fieldref 8 59), (0, .nameAndType 60 44), (0, u "blackPages"), (0, .fieldref 8 62), (0, .nameAndType 63 44), (0, u "liveTotal"), (3, u "(I)Z"), (0, .methodref 8 69), (0, .nameAndType 70 71), (0, u "classIndexFor"), (0, u "(I)I"), (0, .methodref 8 73), (0, .nameAndType 74 71), (0, u "allocInClassPage"), (0, .methodref 8 76), (0, .nameAndType 77 71), (0, u "allocInFreshPage"), (0, .methodref 8 79), (0, .nameAndType 80 71), (0, u "lowestBit"), (0, .methodref 8 82), (0, .nameAndType 83 71), (0, u "slotMaskFor"), (0, .methodref 8 85), (0, .nameAndType 86 87), (0, u "placeObject"), (0, u "(II)I"), (0, .methodref 8 89), (0, .nameAndType 90 87), (0, u "slotStart"), (0, .methodref 8 92), (0, .nameAndType 93 94), (0, u "clearWords"), (0, u "(II)V"), (0, .methodref 8 96), (0, .nameAndType 97 98), (0, u "refreshPage"), (0, u "(I)V"), (0, .methodref 8 100), (0, .nameAndType 101 71), (0, u "findStart"), (0, .methodref 8 103), (0, .nameAndType 104 71), (0, u "pageOf"), (0, .methodref 8 106), (0, .nameAndType 107 87), (0, u "slotOf"), (0, .methodref 8 109), (0, .nameAndType 110 111), (0, u "slotLive"), (0, u "(II)Z"), (11, u "markedTotal"), (5, u "markSp"), (2, u "pointedPages"), (16, .methodref 8 150), (0, .nameAndType 151 67), (0, u "pageValid"), (0, u "BASE"), (2, u "PAGE_WORDS"), (1, u "MAX_OBJECT_WORDS"), (0, u "NULL"), (1, u "REFUSED"), (1, u "MAX_PAGES"), (0, u "MAX_ROOTS"), (9, u "alloc"), (0, u "store"), (0, u "load"), (2, u "objectStart"), (0, u "objectSize"), (0, u "pageClass"), (0, u "pageLiveCount"), (1, u "liveObjects")] 2

def k2c0 : Code := { maxStack := 2, maxLocals := 5, code := prog_1_method_1_code, exceptionTable := #[], attributes := #[] }
def k2m0 : Method := { name := "<init>", desc := "(II)V", sig := { parameters := [.int, .int], returnType := none }, accessFlags := 1, code := some k2c0 }
def k2c1 : Code := { maxStack := 2, maxLocals := 4, code := prog_1_method_8_code, exceptionTable := #[], attributes := #[] }
def k2m1 : Method := { name := "alloc", desc := "(I)I", sig := { parameters := [.int], returnType := some .int }, accessFlags := 1, code := some k2c1 }
def k2c2 : Code := { maxStack := 3, maxLocals := 6, code := prog_1_method_9_code, exceptionTable := #[], attributes := #[] }
def k2m2 : Method := { name := "allocInClassPage", desc := "(I)I", sig := { parameters := [.int], returnType := some .int }, accessFlags := 2, code := some k2c2 }
def k2c3 : Code := { maxStack := 4, maxLocals := 4, code := prog_1_method_10_code, exceptionTable := #[], attributes := #[] }
def k2m3 : Method := { name := "allocInFreshPage", desc := "(I)I", sig := { parameters := [.int], returnType := some .int }, accessFlags := 2, code := some k2c3 }
def k2c4 : Code := { maxStack := 4, maxLocals := 5, code := prog_1_method_11_code, exceptionTable := #[], attributes := #[] }
def k2m4 : Method := { name := "placeObject", desc := "(II)I", sig := { parameters := [.int, .int], returnType := some .int }, accessFlags := 2, code := some k2c4 }
def k2c5 : Code := { maxStack := 3, maxLocals := 6, code := prog_1_method_12_code, exceptionTable := #[], attributes := #[] }
def k2m5 : Method := { name := "clearWords", desc := "(II)V", sig := { parameters := [.int, .int], returnType := none }, accessFlags := 2, code := some k2c5 }
def k2c6 : Code := { maxStack := 2, maxLocals := 3, code := prog_1_method_13_code, exceptionTable := #[], attributes := #[] }
def k2m6 : Method := { name := "classIndexFor", desc := "(I)I", sig := { parameters := [.int], returnType := some .int }, accessFlags := 2, code := some k2c6 }
def k2c7 : Code := { maxStack := 2, maxLocals := 3, code := prog_1_method_14_code, exceptionTable := #[], attributes := #[] }
def k2m7 : Method := { name := "slotMaskFor", desc := "(I)I", sig := { parameters := [.int], returnType := some .int }, accessFlags := 2, code := some k2c7 }
def k2c8 : Code := { maxStack := 2, maxLocals := 1, code := prog_1_method_15_code, exceptionTable := #[], attributes := #[] }
def k2m8 : Method := { name := "validPageMask", desc := "()I", sig := { parameters := [], returnType := some .int }, accessFlags := 2, code := some k2c8 }
def k2c9 : Code := { maxStack := 5, maxLocals := 5, code := prog_1_method_16_code, exceptionTable := #[], attributes := #[] }
def k2m9 : Method := { name := "refreshPage", desc := "(I)V", sig := { parameters := [.int], returnType := none }, accessFlags := 2, code := some k2c9 }
def k2c10 : Code := { maxStack := 3, maxLocals := 5, code := prog_1_method_17_code, exceptionTable := #[], attributes := #[] }
def k2m10 : Method := { name := "store", desc := "(II)Z", sig := { parameters := [.int, .int], returnType := some .boolean }, accessFlags := 1, code := some k2c10 }
def k2c11 : Code := { maxStack := 2, maxLocals := 4, code := prog_1_method_18_code, exceptionTable := #[], attributes := #[] }
def k2m11 : Method := { name := "load", desc := "(I)I", sig := { parameters := [.int], returnType := some .int }, accessFlags := 1, code := some k2c11 }
def k2c12 : Code := { maxStack := 3, maxLocals := 3, code := prog_1_method_19_code, exceptionTable := #[], attributes := #[] }
def k2m12 : Method := { name := "pageOf", desc := "(I)I", sig := { parameters := [.int], returnType := some .int }, accessFlags := 2, code := some k2c12 }
def k2c13 : Code := { maxStack := 3, maxLocals := 4, code := prog_1_method_20_code, exceptionTable := #[], attributes := #[] }
def k2m13 : Method := { name := "slotOf", desc := "(II)I", sig := { parameters := [.int, .int], returnType := some .int }, accessFlags := 2, code := some k2c13 }
def k2c14 : Code := { maxStack := 4, maxLocals := 3, code := prog_1_method_21_code, exceptionTable := #[], attributes := #[] }
def k2m14 : Method := { name := "slotStart", desc := "(II)I", sig := { parameters := [.int, .int], returnType := some .int }, accessFlags := 2, code := some k2c14 }
def k2c15 : Code := { maxStack := 2, maxLocals := 3, code := prog_1_method_22_code, exceptionTable := #[], attributes := #[] }
def k2m15 : Method := { name := "slotLive", desc := "(II)Z", sig := { parameters := [.int, .int], returnType := some .boolean }, accessFlags := 2, code := some k2c15 }
def k2c16 : Code := { maxStack := 3, maxLocals := 4, code := prog_1_method_23_code, exceptionTable := #[], attributes := #[] }
def k2m16 : Method := { name := "findStart", desc := "(I)I", sig := { parameters := [.int], returnType := some .int }, accessFlags := 2, code := some k2c16 }
def k2c17 : Code := { maxStack := 2, maxLocals := 2, code := prog_1_method_33_code, exceptionTable := #[], attributes := #[] }
def k2m17 : Method := { name := "objectStart", desc := "(I)I", sig := { parameters := [.int], returnType := some .int }, accessFlags := 1, code := some k2c17 }
def k2c18 : Code := { maxStack := 2, maxLocals := 4, code := prog_1_method_34_code, exceptionTable := #[], attributes := #[] }
def k2m18 : Method := { name := "objectSize", desc := "(I)I", sig := { parameters := [.int], returnType := some .int }, accessFlags := 1, code := some k2c18 }
def k2c19 : Code := { maxStack := 2, maxLocals := 2, code := prog_1_method_35_code, exceptionTable := #[], attributes := #[] }
def k2m19 : Method := { name := "pageClass", desc := "(I)I", sig := { parameters := [.int], returnType := some .int }, accessFlags := 1, code := some k2c19 }
def k2c20 : Code := { maxStack := 2, maxLocals := 2, code := prog_1_method_36_code, exceptionTable := #[], attributes := #[] }
def k2m20 : Method := { name := "pageLiveCount", desc := "(I)I", sig := { parameters := [.int], returnType := some .int }, accessFlags := 1, code := some k2c20 }
def k2c21 : Code := { maxStack := 1, maxLocals := 1, code := prog_1_method_38_code, exceptionTable := #[], attributes := #[] }
def k2m21 : Method := { name := "liveObjects", desc := "()I", sig := { parameters := [], returnType := some .int }, accessFlags := 1, code := some k2c21 }
def k2c22 : Code := { maxStack := 2, maxLocals := 2, code := prog_1_method_39_code, exceptionTable := #[], attributes := #[] }
def k2m22 : Method := { name := "pageValid", desc := "(I)Z", sig := { parameters := [.int], returnType := some .boolean }, accessFlags := 2, code := some k2c22 }
def k2c23 : Code := { maxStack := 2, maxLocals := 3, code := prog_1_method_40_code, exceptionTable := #[], attributes := #[] }
def k2m23 : Method := { name := "lowestBit", desc := "(I)I", sig := { parameters := [.int], returnType := some .int }, accessFlags := 2, code := some k2c23 }
/-- ConservativeBiY -/
def k2 : Class := { plain "ConservativeBiY" (some 0) with
  accessFlags := 49
  interfaces := #[]
  cf := some (fileOf pool2 8 #[] #[{ accessFlags := 1, nameIndex := 5, descriptorIndex := 94, attributes := #[] }, { accessFlags := 1, nameIndex := 173, descriptorIndex := 71, attributes := #[] }, { accessFlags := 2, nameIndex := 74, descriptorIndex := 71, attributes := #[] }, { accessFlags := 2, nameIndex := 77, descriptorIndex := 71, attributes := #[] }, { accessFlags := 2, nameIndex := 86, descriptorIndex := 87, attributes := #[] }, { accessFlags := 2, nameIndex := 93, descriptorIndex := 94, attributes := #[] }, { accessFlags := 2, nameIndex := 70, descriptorIndex := 71, attributes := #[] }, { accessFlags := 2, nameIndex := 83, descriptorIndex := 71, attributes := #[] }, { accessFlags := 2, nameIndex := 53, descriptorIndex := 54, attributes := #[] }, { accessFlags := 2, nameIndex := 97, descriptorIndex := 98, attributes := #[] }, { accessFlags := 1, nameIndex := 174, descriptorIndex := 111, attributes := #[] }, { accessFlags := 1, nameIndex := 175, descriptorIndex := 71, attributes := #[] }, { accessFlags := 2, nameIndex := 104, descriptorIndex := 71, attributes := #[] }, { accessFlags := 2, nameIndex := 107, descriptorIndex := 87, attributes := #[] }, { accessFlags := 2, nameIndex := 90, descriptorIndex := 87, attributes := #[] }, { accessFlags := 2, nameIndex := 110, descriptorIndex := 111, attributes := #[] }, { accessFlags := 2, nameIndex := 101, descriptorIndex := 71, attributes := #[] }, { accessFlags := 1, nameIndex := 178, descriptorIndex := 71, attributes := #[] }, { accessFlags := 1, nameIndex := 179, descriptorIndex := 71, attributes := #[] }, { accessFlags := 1, nameIndex := 180, descriptorIndex := 71, attributes := #[] }, { accessFlags := 1, nameIndex := 181, descriptorIndex := 71, attributes := #[] }, { accessFlags := 1, nameIndex := 183, descriptorIndex := 54, attributes := #[] }, { accessFlags := 2, nameIndex := 151, descriptorIndex := 67, attributes := #[] }, { accessFlags := 2, nameIndex := 80, descriptorIndex := 71, attributes := #[] }] 49 2 #[] #[{ accessFlags := 25, nameIndex := 152, descriptorIndex := 44, attributes := #[] }, { accessFlags := 25, nameIndex := 155, descriptorIndex := 44, attributes := #[] }, { accessFlags := 25, nameIndex := 157, descriptorIndex := 44, attributes := #[] }, { accessFlags := 25, nameIndex := 158, descriptorIndex := 44, attributes := #[] }, { accessFlags := 25, nameIndex := 160, descriptorIndex := 44, attributes := #[] }, { accessFlags := 25, nameIndex := 162, descriptorIndex := 44, attributes := #[] }, { accessFlags := 25, nameIndex := 163, descriptorIndex := 44, attributes := #[] }, { accessFlags := 2, nameIndex := 43, descriptorIndex := 44, attributes := #[] }, { accessFlags := 2, nameIndex := 47, descriptorIndex := 44, attributes := #[] }, { accessFlags := 2, nameIndex := 50, descriptorIndex := 44, attributes := #[] }, { accessFlags := 2, nameIndex := 11, descriptorIndex := 12, attributes := #[] }, { accessFlags := 2, nameIndex := 15, descriptorIndex := 12, attributes := #[] }, { accessFlags := 2, nameIndex := 18, descriptorIndex := 12, attributes := #[] }, { accessFlags := 2, nameIndex := 21, descriptorIndex := 12, attributes := #[] }, { accessFlags := 2, nameIndex := 24, descriptorIndex := 12, attributes := #[] }, { accessFlags := 2, nameIndex := 27, descriptorIndex := 12, attributes := #[] }, { accessFlags := 2, nameIndex := 30, descriptorIndex := 31, attributes := #[] }, { accessFlags := 2, nameIndex := 34, descriptorIndex := 12, attributes := #[] }, { accessFlags := 2, nameIndex := 57, descriptorIndex := 44, attributes := #[] }, { accessFlags := 2, nameIndex := 60, descriptorIndex := 44, attributes := #[] }, { accessFlags := 2, nameIndex := 63, descriptorIndex := 44, attributes := #[] }, { accessFlags := 2, nameIndex := 37, descriptorIndex := 12, attributes := #[] }, { accessFlags := 2, nameIndex := 40, descriptorIndex := 12, attributes := #[] }, { accessFlags := 2, nameIndex := 129, descriptorIndex := 44, attributes := #[] }, { accessFlags := 2, nameIndex := 123, descriptorIndex := 44, attributes := #[] }, { accessFlags := 2, nameIndex := 132, descriptorIndex := 44, attributes := #[] }])
  fields := #[{ name := "BASE", type := .int, accessFlags := 25, slot := 0, constantValue := 0 }, { name := "PAGE_WORDS", type := .int, accessFlags := 25, slot := 1, constantValue := 0 }, { name := "MAX_OBJECT_WORDS", type := .int, accessFlags := 25, slot := 2, constantValue := 0 }, { name := "NULL", type := .int, accessFlags := 25, slot := 3, constantValue := 0 }, { name := "REFUSED", type := .int, accessFlags := 25, slot := 4, constantValue := 0 }, { name := "MAX_PAGES", type := .int, accessFlags := 25, slot := 5, constantValue := 0 }, { name := "MAX_ROOTS", type := .int, accessFlags := 25, slot := 6, constantValue := 0 }, { name := "pageCount", type := .int, accessFlags := 2, slot := 0, constantValue := 0 }, { name := "rootCap", type := .int, accessFlags := 2, slot := 1, constantValue := 0 }, { name := "depth", type := .int, accessFlags := 2, slot := 2, constantValue := 0 }, { name := "roots", type := (.array .int), accessFlags := 2, slot := 3, constantValue := 0 }, { name := "heap", type := (.array .int), accessFlags := 2, slot := 4, constantValue := 0 }, { name := "pageCls", type := (.array .int), accessFlags := 2, slot := 5, constantValue := 0 }, { name := "pageShift", type := (.array .int), accessFlags := 2, slot := 6, constantValue := 0 }, { name := "liveMask", type := (.array .int), accessFlags := 2, slot := 7, constantValue := 0 }, { name := "liveCnt", type := (.array .int), accessFlags := 2, slot := 8, constantValue := 0 }, { name := "black", type := (.array .boolean), accessFlags := 2, slot := 9, constantValue := 0 }, { name := "classPages", type := (.array .int), accessFlags := 2, slot := 10, constantValue := 0 }, { name := "freePages", type := .int, accessFlags := 2, slot := 11, constantValue := 0 }, { name := "blackPages", type := .int, accessFlags := 2, slot := 12, constantValue := 0 }, { name := "liveTotal", type := .int, accessFlags := 2, slot := 13, constantValue := 0 }, { name := "markMask", type := (.array .int), accessFlags := 2, slot := 14, constantValue := 0 }, { name := "markStack", type := (.array .int), accessFlags := 2, slot := 15, constantValue := 0 }, { name := "markSp", type := .int, accessFlags := 2, slot := 16, constantValue := 0 }, { name := "markedTotal", type := .int, accessFlags := 2, slot := 17, constantValue := 0 }, { name := "pointedPages", type := .int, accessFlags := 2, slot := 18, constantValue := 0 }]
  methods := #[k2m0, k2m1, k2m2, k2m3, k2m4, k2m5, k2m6, k2m7, k2m8, k2m9, k2m10, k2m11, k2m12, k2m13, k2m14, k2m15, k2m16, k2m17, k2m18, k2m19, k2m20, k2m21, k2m22, k2m23]
  instanceTypes := #[.int, .int, .int, (.array .int), (.array .int), (.array .int), (.array .int), (.array .int), (.array .int), (.array .boolean), (.array .int), .int, .int, .int, (.array .int), (.array .int), .int, .int, .int]
  staticTypes := #[.int, .int, .int, .int, .int, .int, .int]
  resolved := Array.replicate 186 none
  statics := none }

def pool3 : Array CpInfo := pool [(1, u "java/lang/Cloneable"), (0, .class_ 1), (0, u "java/lang/Object"), (0, .class_ 3)] 3

/-- java/lang/Cloneable -/
def k3 : Class := { plain "java/lang/Cloneable" (some 0) with
  accessFlags := 1537
  interfaces := #[]
  cf := some (fileOf pool3 2 #[] #[] 1537 4 #[] #[])
  fields := #[]
  methods := #[]
  instanceTypes := #[]
  staticTypes := #[]
  resolved := Array.replicate 8 none
  statics := none }

def pool4 : Array CpInfo := pool [(1, u "java/io/Serializable"), (0, .class_ 1), (0, u "java/lang/Object"), (0, .class_ 3)] 3

/-- java/io/Serializable -/
def k4 : Class := { plain "java/io/Serializable" (some 0) with
  accessFlags := 1537
  interfaces := #[]
  cf := some (fileOf pool4 2 #[] #[] 1537 4 #[] #[])
  fields := #[]
  methods := #[]
  instanceTypes := #[]
  staticTypes := #[]
  resolved := Array.replicate 8 none
  statics := none }

/-- the primitive boolean -/
def k5 : Class := { plain "boolean" none with kind := .primitive 'Z', accessFlags := 0x411 }
/-- [Z -/
def k6 : Class := { plain "[Z" (some 0) with kind := .array 5 .boolean, interfaces := #[3, 4], accessFlags := 1041 }

/-- the primitive byte -/
def k7 : Class := { plain "byte" none with kind := .primitive 'B', accessFlags := 0x411 }
/-- [B -/
def k8 : Class := { plain "[B" (some 0) with kind := .array 7 .byte, interfaces := #[3, 4], accessFlags := 1041 }

/-- the primitive int -/
def k9 : Class := { plain "int" none with kind := .primitive 'I', accessFlags := 0x411 }
/-- [I -/
def k10 : Class := { plain "[I" (some 0) with kind := .array 9 .int, interfaces := #[3, 4], accessFlags := 1041 }

def heap : Heap := #[]
def classes : Array Class := #[k0, k1, k2, k3, k4, k5, k6, k7, k8, k9, k10]
def interned : List (Array UInt16 × Addr) := []
def slotsUsed : Nat := 0
def theMethod : MethodId := ⟨1, 1⟩
def args0 : Array Value := #[.int 4, .int 3, .int 4096, .int 7, .int 1]
def aboutOver (below : List Frame) : State where
  vm := { classes := classes, interned := interned.toArray }
  heap := heap
  slotsUsed := slotsUsed
  threads := #[{ frames := .invoking theMethod args0 :: below }]
def below0 : List Frame := [.native { method := ⟨0, 0⟩, args := #[] }]
def about1 : State := aboutOver below0
def p0 : Program := .bare "" "" ""
def e0 : Env := launch0.env 0 0 0
theorem w_frames : about1.frames = Frame.invoking theMethod args0 :: below0 := rfl
set_option maxRecDepth 65536 in
theorem w_args : argsFit about1.vm theMethod args0 = true := by decide +kernel
set_option maxRecDepth 65536 in
theorem w_heap : heapFits about1 = true := by decide +kernel
set_option maxRecDepth 65536 in
theorem w_runnable : about1.curStatus? = some .runnable := by decide +kernel
set_option maxRecDepth 65536 in
theorem w_alone : about1.alone = true := by decide +kernel
set_option maxRecDepth 65536 in
theorem w_named : about1.methodNamed? x = some theMethod := by decide +kernel
set_option maxRecDepth 65536 in
theorem w_hears : about1.hears theMethod below0 = true := by decide +kernel
set_option maxRecDepth 65536 in
theorem w_ripe : about1.ripe theMethod args0 below0 = true := by decide +kernel
theorem w_running : about1.status = .running := rfl
set_option maxRecDepth 65536 in
theorem w_room : about1.hasRoom e0.platform room_1 = true :=
  launch0.hasRoom_least _ room_1 (by decide +kernel) (by decide +kernel) (by decide +kernel) (by decide +kernel) (by decide +kernel) (by decide +kernel)
theorem allAtoms_all (ts : List Jvm.Cond) (a : Array Jvm.Value) (st : Jvm.State) : (allAtoms ts).before a st = ts.all (fun c => c.before a st) := by
  induction ts with
  | nil => rfl
  | cons c t ih =>
    show (Jvm.Cond.and c (allAtoms t)).before a st = _
    rw [Jvm.Cond.before_and, ih, List.all_cons]
def words1 : List Jvm.Cond := Jvm.Cond.code x code maxLocals ret :: tables_1
/-- a 'code' word, met by the world's own term for the bytes: nothing is compared byte by byte -/
theorem code_word {y : MethodName} {bytes : ByteArray} {mx : Nat} {rt : Option FieldType} {a : Array Value} {s : State} {m : MethodId} {meth : Method} {c : Code} (h1 : s.methodNamed? y = some m) (h2 : s.vm.method? m = some meth) (h3 : meth.code = some c) (h4 : c.code = bytes)
    (h5 : (c.maxLocals == mx && c.exceptionTable.isEmpty && decide (c.maxStack ≤ mostOperands) && decide (meth.sig.returnType = rt) && !meth.locks && decide (parseMethodDescriptor y.desc = some meth.sig)) = true) : (Jvm.Cond.code y bytes mx rt).before a s = true := by
  simp only [Bool.and_eq_true, beq_iff_eq, Bool.not_eq_true', decide_eq_true_eq] at h5
  obtain ⟨⟨⟨⟨⟨g1, g2⟩, g3⟩, g4⟩, g5⟩, g6⟩ := h5
  simp [Cond.before, Cond.holds, Cond.value, h1, h2, h3, h4, g1, g2, g3, g4, g5, g6]
def isCode : Jvm.Cond → Bool
  | .code _ _ _ _ => true
  | _ => false
theorem all_split {L : List Jvm.Cond} {P : Jvm.Cond → Bool} (h1 : L.all (fun c => isCode c || P c) = true) (h2 : ∀ c ∈ L.filter isCode, P c = true) : L.all P = true := by
  refine List.all_eq_true.mpr fun c hc => ?_
  have h := List.all_eq_true.mp h1 c hc
  rcases Bool.eq_false_or_eq_true (isCode c) with hi | hi
  · exact h2 c (List.mem_filter.mpr ⟨hc, hi⟩)
  · simpa [hi] using h
set_option maxRecDepth 65536 in
theorem w_c0 : (Jvm.Cond.code x code maxLocals ret).before args0 about1 = true := code_word (m := ⟨1, 1⟩) (meth := k1m1) (c := k1c1) (by decide +kernel) rfl rfl rfl (by decide +kernel)
set_option maxRecDepth 65536 in
theorem w_c1 : (Jvm.Cond.code ({ cls := "ConservativeBiY", name := "<init>", desc := "(II)V" } : Jvm.MethodName) prog_1_method_1_code (5 : Nat) (Option.none : Option Jvm.ClassFile.FieldType)).before args0 about1 = true := code_word (m := ⟨2, 0⟩) (meth := k2m0) (c := k2c0) (by decide +kernel) rfl rfl rfl (by decide +kernel)
set_option maxRecDepth 65536 in
theorem w_c2 : (Jvm.Cond.code ({ cls := "java/lang/Object", name := "<init>", desc := "()V" } : Jvm.MethodName) object_method_1_code (1 : Nat) (Option.none : Option Jvm.ClassFile.FieldType)).before args0 about1 = true := code_word (m := ⟨0, 0⟩) (meth := k0m0) (c := k0c0) (by decide +kernel) rfl rfl rfl (by decide +kernel)
set_option maxRecDepth 65536 in
theorem w_c3 : (Jvm.Cond.code ({ cls := "ConservativeBiY", name := "validPageMask", desc := "()I" } : Jvm.MethodName) prog_1_method_15_code (1 : Nat) (Option.some Jvm.ClassFile.FieldType.int)).before args0 about1 = true := code_word (m := ⟨2, 8⟩) (meth := k2m8) (c := k2c8) (by decide +kernel) rfl rfl rfl (by decide +kernel)
set_option maxRecDepth 65536 in
theorem w_c4 : (Jvm.Cond.code ({ cls := "ConservativeBiY", name := "alloc", desc := "(I)I" } : Jvm.MethodName) prog_1_method_8_code (4 : Nat) (Option.some Jvm.ClassFile.FieldType.int)).before args0 about1 = true := code_word (m := ⟨2, 1⟩) (meth := k2m1) (c := k2c1) (by decide +kernel) rfl rfl rfl (by decide +kernel)
set_option maxRecDepth 65536 in
theorem w_c5 : (Jvm.Cond.code ({ cls := "ConservativeBiY", name := "classIndexFor", desc := "(I)I" } : Jvm.MethodName) prog_1_method_13_code (3 : Nat) (Option.some Jvm.ClassFile.FieldType.int)).before args0 about1 = true := code_word (m := ⟨2, 6⟩) (meth := k2m6) (c := k2c6) (by decide +kernel) rfl rfl rfl (by decide +kernel)
set_option maxRecDepth 65536 in
theorem w_c6 : (Jvm.Cond.code ({ cls := "ConservativeBiY", name := "allocInClassPage", desc := "(I)I" } : Jvm.MethodName) prog_1_method_9_code (6 : Nat) (Option.some Jvm.ClassFile.FieldType.int)).before args0 about1 = true := code_word (m := ⟨2, 2⟩) (meth := k2m2) (c := k2c2) (by decide +kernel) rfl rfl rfl (by decide +kernel)
set_option maxRecDepth 65536 in
theorem w_c7 : (Jvm.Cond.code ({ cls := "ConservativeBiY", name := "lowestBit", desc := "(I)I" } : Jvm.MethodName) prog_1_method_40_code (3 : Nat) (Option.some Jvm.ClassFile.FieldType.int)).before args0 about1 = true := code_word (m := ⟨2, 23⟩) (meth := k2m23) (c := k2c23) (by decide +kernel) rfl rfl rfl (by decide +kernel)
set_option maxRecDepth 65536 in
theorem w_c8 : (Jvm.Cond.code ({ cls := "ConservativeBiY", name := "allocInFreshPage", desc := "(I)I" } : Jvm.MethodName) prog_1_method_10_code (4 : Nat) (Option.some Jvm.ClassFile.FieldType.int)).before args0 about1 = true := code_word (m := ⟨2, 3⟩) (meth := k2m3) (c := k2c3) (by decide +kernel) rfl rfl rfl (by decide +kernel)
set_option maxRecDepth 65536 in
theorem w_c9 : (Jvm.Cond.code ({ cls := "ConservativeBiY", name := "placeObject", desc := "(II)I" } : Jvm.MethodName) prog_1_method_11_code (5 : Nat) (Option.some Jvm.ClassFile.FieldType.int)).before args0 about1 = true := code_word (m := ⟨2, 4⟩) (meth := k2m4) (c := k2c4) (by decide +kernel) rfl rfl rfl (by decide +kernel)
set_option maxRecDepth 65536 in
theorem w_c10 : (Jvm.Cond.code ({ cls := "ConservativeBiY", name := "slotStart", desc := "(II)I" } : Jvm.MethodName) prog_1_method_21_code (3 : Nat) (Option.some Jvm.ClassFile.FieldType.int)).before args0 about1 = true := code_word (m := ⟨2, 14⟩) (meth := k2m14) (c := k2c14) (by decide +kernel) rfl rfl rfl (by decide +kernel)
set_option maxRecDepth 65536 in
theorem w_c11 : (Jvm.Cond.code ({ cls := "ConservativeBiY", name := "clearWords", desc := "(II)V" } : Jvm.MethodName) prog_1_method_12_code (6 : Nat) (Option.none : Option Jvm.ClassFile.FieldType)).before args0 about1 = true := code_word (m := ⟨2, 5⟩) (meth := k2m5) (c := k2c5) (by decide +kernel) rfl rfl rfl (by decide +kernel)
set_option maxRecDepth 65536 in
theorem w_c12 : (Jvm.Cond.code ({ cls := "ConservativeBiY", name := "refreshPage", desc := "(I)V" } : Jvm.MethodName) prog_1_method_16_code (5 : Nat) (Option.none : Option Jvm.ClassFile.FieldType)).before args0 about1 = true := code_word (m := ⟨2, 9⟩) (meth := k2m9) (c := k2c9) (by decide +kernel) rfl rfl rfl (by decide +kernel)
set_option maxRecDepth 65536 in
theorem w_c13 : (Jvm.Cond.code ({ cls := "ConservativeBiY", name := "slotMaskFor", desc := "(I)I" } : Jvm.MethodName) prog_1_method_14_code (3 : Nat) (Option.some Jvm.ClassFile.FieldType.int)).before args0 about1 = true := code_word (m := ⟨2, 7⟩) (meth := k2m7) (c := k2c7) (by decide +kernel) rfl rfl rfl (by decide +kernel)
set_option maxRecDepth 65536 in
theorem w_c14 : (Jvm.Cond.code ({ cls := "ConservativeBiY", name := "store", desc := "(II)Z" } : Jvm.MethodName) prog_1_method_17_code (5 : Nat) (Option.some Jvm.ClassFile.FieldType.boolean)).before args0 about1 = true := code_word (m := ⟨2, 10⟩) (meth := k2m10) (c := k2c10) (by decide +kernel) rfl rfl rfl (by decide +kernel)
set_option maxRecDepth 65536 in
theorem w_c15 : (Jvm.Cond.code ({ cls := "ConservativeBiY", name := "findStart", desc := "(I)I" } : Jvm.MethodName) prog_1_method_23_code (4 : Nat) (Option.some Jvm.ClassFile.FieldType.int)).before args0 about1 = true := code_word (m := ⟨2, 16⟩) (meth := k2m16) (c := k2c16) (by decide +kernel) rfl rfl rfl (by decide +kernel)
set_option maxRecDepth 65536 in
theorem w_c16 : (Jvm.Cond.code ({ cls := "ConservativeBiY", name := "pageOf", desc := "(I)I" } : Jvm.MethodName) prog_1_method_19_code (3 : Nat) (Option.some Jvm.ClassFile.FieldType.int)).before args0 about1 = true := code_word (m := ⟨2, 12⟩) (meth := k2m12) (c := k2c12) (by decide +kernel) rfl rfl rfl (by decide +kernel)
set_option maxRecDepth 65536 in
theorem w_c17 : (Jvm.Cond.code ({ cls := "ConservativeBiY", name := "load", desc := "(I)I" } : Jvm.MethodName) prog_1_method_18_code (4 : Nat) (Option.some Jvm.ClassFile.FieldType.int)).before args0 about1 = true := code_word (m := ⟨2, 11⟩) (meth := k2m11) (c := k2c11) (by decide +kernel) rfl rfl rfl (by decide +kernel)
set_option maxRecDepth 65536 in
theorem w_c18 : (Jvm.Cond.code ({ cls := "ConservativeBiY", name := "objectStart", desc := "(I)I" } : Jvm.MethodName) prog_1_method_33_code (2 : Nat) (Option.some Jvm.ClassFile.FieldType.int)).before args0 about1 = true := code_word (m := ⟨2, 17⟩) (meth := k2m17) (c := k2c17) (by decide +kernel) rfl rfl rfl (by decide +kernel)
set_option maxRecDepth 65536 in
theorem w_c19 : (Jvm.Cond.code ({ cls := "ConservativeBiY", name := "objectSize", desc := "(I)I" } : Jvm.MethodName) prog_1_method_34_code (4 : Nat) (Option.some Jvm.ClassFile.FieldType.int)).before args0 about1 = true := code_word (m := ⟨2, 18⟩) (meth := k2m18) (c := k2c18) (by decide +kernel) rfl rfl rfl (by decide +kernel)
set_option maxRecDepth 65536 in
theorem w_c20 : (Jvm.Cond.code ({ cls := "ConservativeBiY", name := "pageClass", desc := "(I)I" } : Jvm.MethodName) prog_1_method_35_code (2 : Nat) (Option.some Jvm.ClassFile.FieldType.int)).before args0 about1 = true := code_word (m := ⟨2, 19⟩) (meth := k2m19) (c := k2c19) (by decide +kernel) rfl rfl rfl (by decide +kernel)
set_option maxRecDepth 65536 in
theorem w_c21 : (Jvm.Cond.code ({ cls := "ConservativeBiY", name := "pageValid", desc := "(I)Z" } : Jvm.MethodName) prog_1_method_39_code (2 : Nat) (Option.some Jvm.ClassFile.FieldType.boolean)).before args0 about1 = true := code_word (m := ⟨2, 22⟩) (meth := k2m22) (c := k2c22) (by decide +kernel) rfl rfl rfl (by decide +kernel)
set_option maxRecDepth 65536 in
theorem w_c22 : (Jvm.Cond.code ({ cls := "ConservativeBiY", name := "pageLiveCount", desc := "(I)I" } : Jvm.MethodName) prog_1_method_36_code (2 : Nat) (Option.some Jvm.ClassFile.FieldType.int)).before args0 about1 = true := code_word (m := ⟨2, 20⟩) (meth := k2m20) (c := k2c20) (by decide +kernel) rfl rfl rfl (by decide +kernel)
set_option maxRecDepth 65536 in
theorem w_c23 : (Jvm.Cond.code ({ cls := "ConservativeBiY", name := "liveObjects", desc := "()I" } : Jvm.MethodName) prog_1_method_38_code (1 : Nat) (Option.some Jvm.ClassFile.FieldType.int)).before args0 about1 = true := code_word (m := ⟨2, 21⟩) (meth := k2m21) (c := k2c21) (by decide +kernel) rfl rfl rfl (by decide +kernel)
set_option maxRecDepth 65536 in
theorem w_c24 : (Jvm.Cond.code ({ cls := "ConservativeBiY", name := "slotOf", desc := "(II)I" } : Jvm.MethodName) prog_1_method_20_code (4 : Nat) (Option.some Jvm.ClassFile.FieldType.int)).before args0 about1 = true := code_word (m := ⟨2, 13⟩) (meth := k2m13) (c := k2c13) (by decide +kernel) rfl rfl rfl (by decide +kernel)
set_option maxRecDepth 65536 in
theorem w_c25 : (Jvm.Cond.code ({ cls := "ConservativeBiY", name := "slotLive", desc := "(II)Z" } : Jvm.MethodName) prog_1_method_22_code (3 : Nat) (Option.some Jvm.ClassFile.FieldType.boolean)).before args0 about1 = true := code_word (m := ⟨2, 15⟩) (meth := k2m15) (c := k2c15) (by decide +kernel) rfl rfl rfl (by decide +kernel)
def codes1 : List Jvm.Cond := [Jvm.Cond.code x code maxLocals ret, Jvm.Cond.code ({ cls := "ConservativeBiY", name := "<init>", desc := "(II)V" } : Jvm.MethodName) prog_1_method_1_code (5 : Nat) (Option.none : Option Jvm.ClassFile.FieldType), Jvm.Cond.code ({ cls := "java/lang/Object", name := "<init>", desc := "()V" } : Jvm.MethodName) object_method_1_code (1 : Nat) (Option.none : Option Jvm.ClassFile.FieldType), Jvm.Cond.code ({ cls := "ConservativeBiY", name := "validPageMask", desc := "()I" } : Jvm.MethodName) prog_1_method_15_code (1 : Nat) (Option.some Jvm.ClassFile.FieldType.int), Jvm.Cond.code ({ cls := "ConservativeBiY", name := "alloc", desc := "(I)I" } : Jvm.MethodName) prog_1_method_8_code (4 : Nat) (Option.some Jvm.ClassFile.FieldType.int), Jvm.Cond.code ({ cls := "ConservativeBiY", name := "classIndexFor", desc := "(I)I" } : Jvm.MethodName) prog_1_method_13_code (3 : Nat) (Option.some Jvm.ClassFile.FieldType.int), Jvm.Cond.code ({ cls := "ConservativeBiY", name := "allocInClassPage", desc := "(I)I" } : Jvm.MethodName) prog_1_method_9_code (6 : Nat) (Option.some Jvm.ClassFile.FieldType.int), Jvm.Cond.code ({ cls := "ConservativeBiY", name := "lowestBit", desc := "(I)I" } : Jvm.MethodName) prog_1_method_40_code (3 : Nat) (Option.some Jvm.ClassFile.FieldType.int), Jvm.Cond.code ({ cls := "ConservativeBiY", name := "allocInFreshPage", desc := "(I)I" } : Jvm.MethodName) prog_1_method_10_code (4 : Nat) (Option.some Jvm.ClassFile.FieldType.int), Jvm.Cond.code ({ cls := "ConservativeBiY", name := "placeObject", desc := "(II)I" } : Jvm.MethodName) prog_1_method_11_code (5 : Nat) (Option.some Jvm.ClassFile.FieldType.int), Jvm.Cond.code ({ cls := "ConservativeBiY", name := "slotStart", desc := "(II)I" } : Jvm.MethodName) prog_1_method_21_code (3 : Nat) (Option.some Jvm.ClassFile.FieldType.int), Jvm.Cond.code ({ cls := "ConservativeBiY", name := "clearWords", desc := "(II)V" } : Jvm.MethodName) prog_1_method_12_code (6 : Nat) (Option.none : Option Jvm.ClassFile.FieldType), Jvm.Cond.code ({ cls := "ConservativeBiY", name := "refreshPage", desc := "(I)V" } : Jvm.MethodName) prog_1_method_16_code (5 : Nat) (Option.none : Option Jvm.ClassFile.FieldType), Jvm.Cond.code ({ cls := "ConservativeBiY", name := "slotMaskFor", desc := "(I)I" } : Jvm.MethodName) prog_1_method_14_code (3 : Nat) (Option.some Jvm.ClassFile.FieldType.int), Jvm.Cond.code ({ cls := "ConservativeBiY", name := "store", desc := "(II)Z" } : Jvm.MethodName) prog_1_method_17_code (5 : Nat) (Option.some Jvm.ClassFile.FieldType.boolean), Jvm.Cond.code ({ cls := "ConservativeBiY", name := "findStart", desc := "(I)I" } : Jvm.MethodName) prog_1_method_23_code (4 : Nat) (Option.some Jvm.ClassFile.FieldType.int), Jvm.Cond.code ({ cls := "ConservativeBiY", name := "pageOf", desc := "(I)I" } : Jvm.MethodName) prog_1_method_19_code (3 : Nat) (Option.some Jvm.ClassFile.FieldType.int), Jvm.Cond.code ({ cls := "ConservativeBiY", name := "load", desc := "(I)I" } : Jvm.MethodName) prog_1_method_18_code (4 : Nat) (Option.some Jvm.ClassFile.FieldType.int), Jvm.Cond.code ({ cls := "ConservativeBiY", name := "objectStart", desc := "(I)I" } : Jvm.MethodName) prog_1_method_33_code (2 : Nat) (Option.some Jvm.ClassFile.FieldType.int), Jvm.Cond.code ({ cls := "ConservativeBiY", name := "objectSize", desc := "(I)I" } : Jvm.MethodName) prog_1_method_34_code (4 : Nat) (Option.some Jvm.ClassFile.FieldType.int), Jvm.Cond.code ({ cls := "ConservativeBiY", name := "pageClass", desc := "(I)I" } : Jvm.MethodName) prog_1_method_35_code (2 : Nat) (Option.some Jvm.ClassFile.FieldType.int), Jvm.Cond.code ({ cls := "ConservativeBiY", name := "pageValid", desc := "(I)Z" } : Jvm.MethodName) prog_1_method_39_code (2 : Nat) (Option.some Jvm.ClassFile.FieldType.boolean), Jvm.Cond.code ({ cls := "ConservativeBiY", name := "pageLiveCount", desc := "(I)I" } : Jvm.MethodName) prog_1_method_36_code (2 : Nat) (Option.some Jvm.ClassFile.FieldType.int), Jvm.Cond.code ({ cls := "ConservativeBiY", name := "liveObjects", desc := "()I" } : Jvm.MethodName) prog_1_method_38_code (1 : Nat) (Option.some Jvm.ClassFile.FieldType.int), Jvm.Cond.code ({ cls := "ConservativeBiY", name := "slotOf", desc := "(II)I" } : Jvm.MethodName) prog_1_method_20_code (4 : Nat) (Option.some Jvm.ClassFile.FieldType.int), Jvm.Cond.code ({ cls := "ConservativeBiY", name := "slotLive", desc := "(II)Z" } : Jvm.MethodName) prog_1_method_22_code (3 : Nat) (Option.some Jvm.ClassFile.FieldType.boolean)]
set_option maxRecDepth 65536 in
theorem codes_eq : words1.filter isCode = codes1 := rfl
theorem w_codes : ∀ c ∈ words1.filter isCode, c.before args0 about1 = true := by
  rw [codes_eq]
  intro c hc
  simp only [codes1, List.mem_cons, List.not_mem_nil, or_false] at hc
  rcases hc with rfl | rfl | rfl | rfl | rfl | rfl | rfl | rfl | rfl | rfl | rfl | rfl | rfl | rfl | rfl | rfl | rfl | rfl | rfl | rfl | rfl | rfl | rfl | rfl | rfl | rfl
  · exact w_c0
  · exact w_c1
  · exact w_c2
  · exact w_c3
  · exact w_c4
  · exact w_c5
  · exact w_c6
  · exact w_c7
  · exact w_c8
  · exact w_c9
  · exact w_c10
  · exact w_c11
  · exact w_c12
  · exact w_c13
  · exact w_c14
  · exact w_c15
  · exact w_c16
  · exact w_c17
  · exact w_c18
  · exact w_c19
  · exact w_c20
  · exact w_c21
  · exact w_c22
  · exact w_c23
  · exact w_c24
  · exact w_c25
set_option maxRecDepth 65536 in
theorem w_t1 : (words1.take 24).all (fun c => isCode c || c.before args0 about1) = true := by decide +kernel
set_option maxRecDepth 65536 in
theorem w_t2 : ((words1.drop 24).take 24).all (fun c => isCode c || c.before args0 about1) = true := by decide +kernel
set_option maxRecDepth 65536 in
theorem w_t3 : (((words1.drop 24).drop 24).take 24).all (fun c => isCode c || c.before args0 about1) = true := by decide +kernel
set_option maxRecDepth 65536 in
theorem w_t4 : ((((words1.drop 24).drop 24).drop 24).take 24).all (fun c => isCode c || c.before args0 about1) = true := by decide +kernel
set_option maxRecDepth 65536 in
theorem w_t5 : (((((words1.drop 24).drop 24).drop 24).drop 24).take 24).all (fun c => isCode c || c.before args0 about1) = true := by decide +kernel
set_option maxRecDepth 65536 in
theorem w_t6 : (((((words1.drop 24).drop 24).drop 24).drop 24).drop 24).all (fun c => isCode c || c.before args0 about1) = true := by decide +kernel
theorem w_tables : (allAtoms (Jvm.Cond.code x code maxLocals ret :: tables_1)).before args0 about1 = true := by
  rw [allAtoms_all]
  show words1.all (fun c => c.before args0 about1) = true
  refine all_split ?_ w_codes
  rw [← List.take_append_drop 24 words1, List.all_append, w_t1, ← List.take_append_drop 24 (words1.drop 24), List.all_append, w_t2, ← List.take_append_drop 24 ((words1.drop 24).drop 24), List.all_append, w_t3, ← List.take_append_drop 24 (((words1.drop 24).drop 24).drop 24), List.all_append, w_t4, ← List.take_append_drop 24 ((((words1.drop 24).drop 24).drop 24).drop 24), List.all_append, w_t5, w_t6]
  rfl
set_option maxRecDepth 65536 in
theorem w_case : (Jvm.Cond.and given_1 narrow_1).before args0 about1 = true := by decide +kernel
theorem w_applies : (headSpec (Jvm.Cond.code x code maxLocals ret :: tables_1) room_1).applies x e0.platform about1 = true :=
  (Spec.applies_iff w_frames).mpr ⟨w_running, w_runnable, w_alone, w_named, w_hears, w_ripe, w_room, w_tables⟩
theorem atStart : AtStart classFile x code maxLocals ret World_1 tables_1 room_1 Calls_1 rest_1 Pre_1 launch0 p0 e0 about1 theMethod args0 below0 :=
  ⟨lists_1, trivial, launch0.admits_env _ _ _, launch0.least_env, fairChoices_fair.cas, fairChoices_fair.clock, w_frames, w_args, w_heap, w_applies, trivial, trivial, w_case⟩
end start1
theorem witness_1 : WitnessClaimed_1 := ⟨start1.p0, start1.e0, start1.about1, start1.theMethod, start1.args0, start1.below0, start1.atStart⟩
end Jvm.Pilot.@@N@@
