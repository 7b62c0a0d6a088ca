import JvmDerived
import JvmDerived.Pilot.@@N@@Statement
import JvmDerived.Pilot.@@N@@Code
set_option linter.unusedVariables false
set_option linter.unusedSimpArgs false
namespace Jvm.Pilot.@@N@@
open Jvm Jvm.ClassFile Sem Op Lib Jvm.Free Jvm.Stand Jvm.LawKit Jvm.RoadKit Bundle Jvm.Pilot.@@N@@.Jvm.D
/-! THE ABSTRACT MACHINE: a config (pc, locals, stack, contents) over numbered cells, and its steps over the library's laws (family of example/lawnew). -/
abbrev Sg := (Nat → Nat → Int32) × (Nat → Nat → Int64)
def gi (σ : Sg) (k i : Nat) : Int32 := σ.1 k i
def gj (σ : Sg) (k i : Nat) : Int64 := σ.2 k i
def si (σ : Sg) (k i : Nat) (v : Int32) : Sg := (fun k' i' => if k' = k ∧ i' = i then v else σ.1 k' i', σ.2)
def sj (σ : Sg) (k i : Nat) (v : Int64) : Sg := (σ.1, fun k' i' => if k' = k ∧ i' = i then v else σ.2 k' i')
def zs : Sg := (fun _ _ => 0, fun _ _ => 0)
theorem gi_si (σ : Sg) (k i k' i' : Nat) (v : Int32) : gi (si σ k i v) k' i' = if k' = k ∧ i' = i then v else gi σ k' i' := of_eq_true (eq_self _)
theorem gj_sj (σ : Sg) (k i k' i' : Nat) (v : Int64) : gj (sj σ k i v) k' i' = if k' = k ∧ i' = i then v else gj σ k' i' := of_eq_true (eq_self _)
theorem gi_sj (σ : Sg) (k i k' i' : Nat) (v : Int64) : gi (sj σ k i v) k' i' = gi σ k' i' := of_eq_true (eq_self _)
theorem gj_si (σ : Sg) (k i k' i' : Nat) (v : Int32) : gj (si σ k i v) k' i' = gj σ k' i' := of_eq_true (eq_self _)
theorem gi_zs (k i : Nat) : gi zs k i = 0 := of_eq_true (eq_self _)
theorem gj_zs (k i : Nat) : gj zs k i = 0 := of_eq_true (eq_self _)
def nx (i : Int32) : Nat := i.toInt.toNat
/-- a numbered cell: an object of the class with its first q arrays laid; an array of n places (its own, or one that is only read) -/
abbrev CD := Nat ⊕ (FieldType × Nat × Option (Nat → Int32))
abbrev FS := List (String × String × Nat)
def cv (A : Nat → Addr) : Value → Value
  | .ref k => .ref (A k)
  | v => v
def fv (σ : Sg) (k j q : Nat) : Nat → Value
  | 0 => .int (gi σ k j)
  | 1 => .long (gj σ k j)
  | r + 2 => if r < q then .ref (k + (r + 1)) else .null
def ae (σ : Sg) (k i : Nat) : FieldType → Value
  | .long => .long (gj σ k i)
  | _ => .int (gi σ k i)
def aeo (σ : Sg) (k i : Nat) (ty : FieldType) : Option (Nat → Int32) → Value
  | none => ae σ k i ty
  | some f => .int (f i)
def wrb : CD → Bool
  | .inl _ => true
  | .inr (_, _, o) => o.isNone
def CellOk (Z : State) (C : String) (fs : FS) (h : Heap) (A : Nat → Addr) (σ : Sg) (k : Nat) : CD → Prop
  | .inl q => Exa Z h (A k) C ∧ ∀ (j : Nat) (n d : String) (cd : Nat), fs[j]? = some (n, d, cd) → Fld Z h (A k) C n d (cv A (fv σ k j q cd))
  | .inr (ty, n, o) => ∃ c : Cell, Arr Z h (A k) c ty ∧ c.slots.size = n ∧ ∀ i, i < n → c.slots[i]? = some (aeo σ k i ty o)
def Wd (Z : State) (C : String) (fs : FS) (h : Heap) (A : Nat → Addr) (w : Nat → Option CD) (σ : Sg) : Prop :=
  (∀ k d, w k = some d → CellOk Z C fs h A σ k d) ∧ ∀ k k' d d', w k = some d → w k' = some d' → A k = A k' → k = k'
def Out (h0 h : Heap) (A : Nat → Addr) (w : Nat → Option CD) : Prop := h0.size ≤ h.size ∧ ∀ (b : Addr) (c : Cell), h0[b]? = some c → (∀ k d, w k = some d → wrb d = true → A k ≠ b) → h[b]? = some c
def Nw (n0 : Nat) (A : Nat → Addr) (w : Nat → Option CD) : Prop := ∀ k d, w k = some d → wrb d = true → n0 ≤ A k
theorem Out.refl (h : Heap) (A : Nat → Addr) (w : Nat → Option CD) : Out h h A w := ⟨Nat.le_refl _, fun _ _ q _ => q⟩
theorem cv_cat (A : Nat → Addr) (v : Value) : (cv A v).category = v.category := by cases v <;> rfl
/-! locals -/
def WP (rl : List Slot) : Prop := ∀ k, rl[k]? = some .second ↔ ∃ k', k = k' + 1 ∧ ∃ w : Value, rl[k']? = some (.val w) ∧ w.category = 2
def LsOk (A : Nat → Addr) (Ls rl : List Slot) : Prop := rl.length = Ls.length ∧ WP rl ∧ ∀ (k : Nat) (v : Value), Ls[k]? = some (.val v) → rl[k]? = some (.val (cv A v))
def cl1 (Ls : List Slot) : Nat → List Slot
  | 0 => Ls
  | k + 1 => match Ls[k]? with
    | some (.val u) => if u.category = 2 then Ls.set k .unset else Ls
    | _ => Ls
def st1 (Ls : List Slot) (k : Nat) (v : Value) : List Slot := (cl1 Ls k).set k (.val v)
def st2 (Ls : List Slot) (k : Nat) (v : Value) : List Slot := ((cl1 Ls k).set k (.val v)).set (k + 1) .second
def entX : List Value → List Slot
  | [] => []
  | v :: vs => if v.category = 2 then .val v :: .second :: entX vs else .val v :: entX vs
def entL (vs : List Value) (n : Nat) : List Slot := entX vs ++ List.replicate (n - (entX vs).length) .unset
theorem WP.unset (n : Nat) : WP (List.replicate n .unset) := fun k => by
  constructor
  · intro h; rw [List.getElem?_replicate] at h; split at h <;> cases h
  · rintro ⟨k', -, w, h, -⟩; rw [List.getElem?_replicate] at h; split at h <;> cases h
theorem WP.cons1 {l : List Slot} {v : Value} (h : WP l) (hv : v.category ≠ 2) : WP (.val v :: l) := fun k => by
  cases k with
  | zero => exact ⟨fun q => by simp at q, fun ⟨k', q, _⟩ => by omega⟩
  | succ k =>
    rw [List.getElem?_cons_succ, h k]
    constructor
    · rintro ⟨k', rfl, w, h1, h2⟩; exact ⟨k' + 1, rfl, w, by rw [List.getElem?_cons_succ]; exact h1, h2⟩
    · rintro ⟨k', e, w, h1, h2⟩
      cases k' with
      | zero => simp at h1; subst h1; exact absurd h2 hv
      | succ k' => exact ⟨k', by omega, w, by rw [List.getElem?_cons_succ] at h1; exact h1, h2⟩
theorem WP.cons2 {l : List Slot} {v : Value} (h : WP l) (hv : v.category = 2) : WP (.val v :: .second :: l) := fun k => by
  match k with
  | 0 => exact ⟨fun q => by simp at q, fun ⟨k', q, _⟩ => by omega⟩
  | 1 => exact ⟨fun _ => ⟨0, rfl, v, rfl, hv⟩, fun _ => rfl⟩
  | k + 2 =>
    rw [List.getElem?_cons_succ, List.getElem?_cons_succ, h k]
    constructor
    · rintro ⟨k', rfl, w, h1, h2⟩; exact ⟨k' + 2, rfl, w, by rw [List.getElem?_cons_succ, List.getElem?_cons_succ]; exact h1, h2⟩
    · rintro ⟨k', e, w, h1, h2⟩
      match k' with
      | 0 => omega
      | 1 => simp at h1
      | k' + 2 => exact ⟨k', by omega, w, by rw [List.getElem?_cons_succ, List.getElem?_cons_succ] at h1; exact h1, h2⟩
theorem entX_wp (vs : List Value) (n : Nat) : WP (entX vs ++ List.replicate n .unset) := by
  induction vs with
  | nil => exact WP.unset n
  | cons v vs ih =>
    by_cases hv : v.category = 2
    · simp only [entX, if_pos hv, List.cons_append]; exact ih.cons2 hv
    · simp only [entX, if_neg hv, List.cons_append]; exact ih.cons1 hv
theorem entX_map (A : Nat → Addr) (vs : List Value) : (entX (vs.map (cv A))).length = (entX vs).length ∧ ∀ (k : Nat) (v : Value) (r : List Slot) , (entX vs ++ r)[k]? = some (.val v) → (∀ j : Nat, r[j]? ≠ some (Slot.val v)) → (entX (vs.map (cv A)) ++ r)[k]? = some (.val (cv A v)) := by
  induction vs with
  | nil => exact ⟨rfl, fun k v r h q => absurd h (by simpa [entX] using q k)⟩
  | cons u vs ih =>
    have e : (cv A u).category = 2 ↔ u.category = 2 := by rw [cv_cat]
    by_cases hv : u.category = 2
    · simp only [List.map_cons, entX, if_pos hv, if_pos (e.mpr hv), List.cons_append, List.length_cons, ih.1, true_and]
      intro k v r h q
      match k with
      | 0 => simp at h ⊢; rw [h]
      | 1 => simp at h
      | k + 2 => rw [List.getElem?_cons_succ, List.getElem?_cons_succ] at h ⊢; exact ih.2 k v r h q
    · simp only [List.map_cons, entX, if_neg hv, if_neg (fun x => hv (e.mp x)), List.cons_append, List.length_cons, ih.1, true_and]
      intro k v r h q
      match k with
      | 0 => simp at h ⊢; rw [h]
      | k + 1 => rw [List.getElem?_cons_succ] at h ⊢; exact ih.2 k v r h q
theorem entL_ok (A : Nat → Addr) (vs : List Value) (n : Nat) : LsOk A (entL vs n) (entL (vs.map (cv A)) n) := by
  refine ⟨by simp only [entL, List.length_append, List.length_replicate, (entX_map A vs).1], entX_wp _ _, fun k v h => ?_⟩
  unfold entL at h ⊢
  rw [(entX_map A vs).1]
  exact (entX_map A vs).2 k v _ h fun j q => by rw [List.getElem?_replicate] at q; split at q <;> cases q
theorem entL_arr (vs : List Value) (n : Nat) : argsToLocals vs.toArray n = (entL vs n).toArray := by
  have key : ∀ (vs : List Value) (acc : Array Slot), vs.foldl (fun acc v => if v.category = 2 then (acc.push (.val v)).push .second else acc.push (.val v)) acc = acc ++ (entX vs).toArray := by
    intro vs
    induction vs with
    | nil => intro acc; simp [entX]
    | cons v vs ih =>
      intro acc
      rw [List.foldl_cons, ih]
      by_cases hv : v.category = 2
      · simp only [entX, if_pos hv]; apply Array.toList_inj.mp; simp
      · simp only [entX, if_neg hv]; apply Array.toList_inj.mp; simp
  unfold argsToLocals entL
  simp only [List.foldl_toArray', key]
  apply Array.toList_inj.mp; simp
theorem cl1_len (Ls : List Slot) (k : Nat) : (cl1 Ls k).length = Ls.length := by
  cases k with
  | zero => rfl
  | succ k => simp only [cl1]; split <;> first | rfl | (split <;> simp)
theorem cl1_val {Ls : List Slot} {k k2 : Nat} {v : Value} (h : (cl1 Ls k)[k2]? = some (.val v)) : Ls[k2]? = some (.val v) ∧ (k = k2 + 1 → v.category ≠ 2) := by
  cases k with
  | zero => exact ⟨h, fun q => by omega⟩
  | succ k =>
    simp only [cl1] at h
    split at h
    · rename_i u hu
      split at h
      · rename_i h2
        rw [List.getElem?_set] at h
        split at h
        · split at h <;> cases h
        · rename_i ne; exact ⟨h, fun q => by omega⟩
      · rename_i h2
        refine ⟨h, fun q => ?_⟩
        have : k = k2 := by omega
        subst this
        rw [hu] at h; cases h; exact h2
    · rename_i hno
      refine ⟨h, fun q => ?_⟩
      have : k = k2 := by omega
      subst this
      exact absurd h (hno v)
/-- what a store leaves at each place -/
theorem am_st1 {A : Nat → Addr} {Ls rl : List Slot} {k : Nat} {v : Value} (L : LsOk A Ls rl) (hk : k < Ls.length) (hv : v.category = 1) : ∃ rl' : List Slot, storeLocals rl.toArray k (cv A v) = some rl'.toArray ∧ LsOk A (st1 Ls k v) rl' := by
  obtain ⟨hl, hw, hc⟩ := L
  have hk' : k < rl.length := by omega
  have hcat : (cv A v).category = 1 := by rw [cv_cat]; exact hv
  have hr : rl[k]? = some rl[k] := List.getElem?_eq_getElem hk'
  have hlen : (st1 Ls k v).length = Ls.length := by simp [st1, cl1_len]
  have hclaim : ∀ (j : Nat) (u : Value), (st1 Ls k v)[j]? = some (.val u) → (j = k ∧ u = v) ∨ (j ≠ k ∧ Ls[j]? = some (.val u) ∧ (k = j + 1 → u.category ≠ 2)) := by
    intro j u h
    unfold st1 at h
    rw [List.getElem?_set] at h
    split at h
    · rename_i e; subst e
      split at h
      · cases h; exact Or.inl ⟨rfl, rfl⟩
      · cases h
    · rename_i ne
      exact Or.inr ⟨fun e => ne e.symm, cl1_val h⟩
  cases hs : rl[k] with
  | unset =>
    rw [hs] at hr
    refine ⟨rl.set k (.val (cv A v)), by simp [storeLocals, storeSelf, setAt, hr, hs, hcat, hk'], by simp [hlen, hl], fun j => ?_, fun j u h => ?_⟩
    · rw [List.getElem?_set]
      constructor
      · intro h
        split at h
        · first | cases h | (split at h <;> cases h)
        · obtain ⟨j', rfl, w, h1, h2⟩ := (hw j).mp h
          exact ⟨j', rfl, w, by rw [List.getElem?_set]; rw [if_neg (fun e => by subst e; rw [hr] at h1; cases h1)]; exact h1, h2⟩
      · rintro ⟨j', rfl, w, h1, h2⟩
        rw [List.getElem?_set] at h1
        split at h1
        · first | (cases h1; omega) | (split at h1 <;> first | (cases h1; omega) | cases h1)
        · rw [if_neg (fun e => by have := (hw (j' + 1)).mpr ⟨j', rfl, w, h1, h2⟩; rw [← e, hr] at this; cases this)]
          exact (hw (j' + 1)).mpr ⟨j', rfl, w, h1, h2⟩
    · rcases hclaim j u h with ⟨rfl, rfl⟩ | ⟨ne, h1, h2⟩
      · rw [List.getElem?_set]; simp [hk']
      · rw [List.getElem?_set, if_neg (fun e => ne e.symm)]; exact hc j u h1
  | second =>
    rw [hs] at hr
    obtain ⟨k', rfl, w0, hw1, hw2⟩ := (hw k).mp hr
    refine ⟨(rl.set k' .unset).set (k' + 1) (.val (cv A v)), by simp [storeLocals, storeSelf, setAt, hr, hs, hcat, hk', show k' < rl.length by omega], by simp [hlen, hl], fun j => ?_, fun j u h => ?_⟩
    · rw [List.getElem?_set, List.getElem?_set, List.length_set]
      constructor
      · intro h
        split at h
        · first | cases h | (split at h <;> cases h)
        · rename_i n1
          split at h
          · first | cases h | (split at h <;> cases h)
          · rename_i n2
            obtain ⟨j', rfl, w, h1, h2⟩ := (hw j).mp h
            refine ⟨j', rfl, w, ?_, h2⟩
            rw [List.getElem?_set, List.getElem?_set]
            rw [if_neg (fun e => by subst e; rw [hr] at h1; cases h1), if_neg (fun e => by omega)]; exact h1
      · rintro ⟨j', rfl, w, h1, h2⟩
        rw [List.getElem?_set, List.getElem?_set, List.length_set] at h1
        split at h1
        · first | (cases h1; omega) | (split at h1 <;> first | (cases h1; omega) | cases h1)
        · rename_i n1
          split at h1
          · first | cases h1 | (split at h1 <;> cases h1)
          · rename_i n2
            have q := (hw (j' + 1)).mpr ⟨j', rfl, w, h1, h2⟩
            rw [if_neg (fun e => by omega), if_neg (fun e => by
              have : rl[k']? = some .second := by rw [e]; exact q
              rw [hw1] at this; cases this)]
            exact q
    · rcases hclaim j u h with ⟨rfl, rfl⟩ | ⟨ne, h1, h2⟩
      · rw [List.getElem?_set]; simp [hk']
      · rw [List.getElem?_set, if_neg (fun e => ne e.symm), List.getElem?_set]
        by_cases e : k' = j
        · subst e
          have := hc k' u h1
          rw [hw1] at this; cases this
          rw [cv_cat] at hw2
          exact absurd hw2 (h2 rfl)
        · rw [if_neg e]; exact hc j u h1
  | val r =>
    rw [hs] at hr
    by_cases hr2 : r.category = 2
    · have hsec : rl[k + 1]? = some .second := (hw (k + 1)).mpr ⟨k, rfl, r, hr, hr2⟩
      have hk1 : k + 1 < rl.length := (List.getElem?_eq_some_iff.mp hsec).1
      refine ⟨(rl.set (k + 1) .unset).set k (.val (cv A v)), by simp [storeLocals, storeSelf, setAt, hr, hs, hr2, hcat, hk', hk1], by simp [hlen, hl], fun j => ?_, fun j u h => ?_⟩
      · rw [List.getElem?_set, List.getElem?_set, List.length_set]
        constructor
        · intro h
          split at h
          · first | cases h | (split at h <;> cases h)
          · rename_i n1
            split at h
            · first | cases h | (split at h <;> cases h)
            · rename_i n2
              obtain ⟨j', rfl, w, h1, h2⟩ := (hw j).mp h
              refine ⟨j', rfl, w, ?_, h2⟩
              rw [List.getElem?_set, List.getElem?_set]
              rw [if_neg (fun e => by omega), if_neg (fun e => by rw [← e, hsec] at h1; cases h1)]; exact h1
        · rintro ⟨j', rfl, w, h1, h2⟩
          rw [List.getElem?_set, List.getElem?_set, List.length_set] at h1
          split at h1
          · first | (cases h1; omega) | (split at h1 <;> first | (cases h1; omega) | cases h1)
          · rename_i n1
            split at h1
            · first | cases h1 | (split at h1 <;> cases h1)
            · rename_i n2
              have q := (hw (j' + 1)).mpr ⟨j', rfl, w, h1, h2⟩
              rw [if_neg (fun e => by rw [← e, hr] at q; cases q), if_neg (fun e => by omega)]
              exact q
      · rcases hclaim j u h with ⟨rfl, rfl⟩ | ⟨ne, h1, h2⟩
        · rw [List.getElem?_set]; simp [hk']
        · rw [List.getElem?_set, if_neg (fun e => ne e.symm), List.getElem?_set]
          by_cases e : k + 1 = j
          · subst e
            have := hc _ u h1
            rw [hsec] at this; cases this
          · rw [if_neg e]; exact hc j u h1
    · refine ⟨rl.set k (.val (cv A v)), by simp [storeLocals, storeSelf, setAt, hr, hs, hr2, hcat, hk'], by simp [hlen, hl], fun j => ?_, fun j u h => ?_⟩
      · rw [List.getElem?_set]
        constructor
        · intro h
          split at h
          · first | cases h | (split at h <;> cases h)
          · obtain ⟨j', rfl, w, h1, h2⟩ := (hw j).mp h
            exact ⟨j', rfl, w, by rw [List.getElem?_set]; rw [if_neg (fun e => by subst e; rw [hr] at h1; cases h1; exact hr2 h2)]; exact h1, h2⟩
        · rintro ⟨j', rfl, w, h1, h2⟩
          rw [List.getElem?_set] at h1
          split at h1
          · first | (cases h1; omega) | (split at h1 <;> first | (cases h1; omega) | cases h1)
          · rw [if_neg (fun e => by have := (hw (j' + 1)).mpr ⟨j', rfl, w, h1, h2⟩; rw [← e, hr] at this; cases this)]
            exact (hw (j' + 1)).mpr ⟨j', rfl, w, h1, h2⟩
      · rcases hclaim j u h with ⟨rfl, rfl⟩ | ⟨ne, h1, h2⟩
        · rw [List.getElem?_set]; simp [hk']
        · rw [List.getElem?_set, if_neg (fun e => ne e.symm)]; exact hc j u h1
theorem wp2 {rl rl' : List Slot} {k : Nat} {v : Value} (hw : WP rl) (hv : v.category = 2) (h0 : rl'[k]? = some (.val v)) (h1 : rl'[k + 1]? = some .second)
    (hj : ∀ j, j ≠ k → j ≠ k + 1 → (rl'[j]? = rl[j]? ∧ ¬ (j + 1 = k ∧ rl[k]? = some .second) ∧ ¬ (j = k + 2 ∧ ∃ u : Value, rl[k + 1]? = some (.val u) ∧ u.category = 2)) ∨ (rl'[j]? = some .unset ∧ ((j + 1 = k ∧ rl[k]? = some .second) ∨ (j = k + 2 ∧ ∃ u : Value, rl[k + 1]? = some (.val u) ∧ u.category = 2)))) : WP rl' := fun j => by
  constructor
  · intro h
    by_cases e1 : j = k
    · subst e1; rw [h0] at h; cases h
    by_cases e2 : j = k + 1
    · exact ⟨k, e2, v, h0, hv⟩
    rcases hj j e1 e2 with ⟨q, n1, n2⟩ | ⟨q, -⟩
    · rw [q] at h
      obtain ⟨j', rfl, w, a1, a2⟩ := (hw j).mp h
      refine ⟨j', rfl, w, ?_, a2⟩
      have d1 : j' ≠ k := fun e => e2 (by omega)
      have d2 : j' ≠ k + 1 := fun e => n2 ⟨by omega, w, by rw [← e]; exact a1, a2⟩
      rcases hj j' d1 d2 with ⟨q', -⟩ | ⟨-, ⟨z1, z2⟩ | ⟨z1, u, z2, z3⟩⟩
      · rw [q']; exact a1
      · exact absurd z1 e1
      · have := (hw (k + 2)).mpr ⟨k + 1, rfl, u, z2, z3⟩
        rw [← z1, a1] at this; cases this
    · rw [q] at h; cases h
  · rintro ⟨j', rfl, w, a1, a2⟩
    by_cases e1 : j' = k
    · subst e1; exact h1
    by_cases e2 : j' = k + 1
    · subst e2; rw [h1] at a1; cases a1
    rcases hj j' e1 e2 with ⟨q, n1, n2⟩ | ⟨q, -⟩
    · rw [q] at a1
      have s := (hw (j' + 1)).mpr ⟨j', rfl, w, a1, a2⟩
      have d1 : j' + 1 ≠ k := fun e => n1 ⟨e, by rw [← e]; exact s⟩
      have d2 : j' + 1 ≠ k + 1 := fun e => e1 (by omega)
      rcases hj (j' + 1) d1 d2 with ⟨q', -⟩ | ⟨-, ⟨z1, z2⟩ | ⟨z1, -⟩⟩
      · rw [q']; exact s
      · obtain ⟨k', y1, w', y2, y3⟩ := (hw k).mp z2
        have : k' = j' + 1 := by omega
        subst this
        rw [s] at y2; cases y2
      · exact absurd (by omega) e2
    · rw [q] at a1; cases a1
theorem am_st2 {A : Nat → Addr} {Ls rl : List Slot} {k : Nat} {v : Value} (L : LsOk A Ls rl) (hk : k + 1 < Ls.length) (hv : v.category = 2) : ∃ rl' : List Slot, storeLocals rl.toArray k (cv A v) = some rl'.toArray ∧ LsOk A (st2 Ls k v) rl' := by
  obtain ⟨hl, hw, hc⟩ := L
  have hk' : k < rl.length := by omega
  have hk1 : k + 1 < rl.length := by omega
  have hcat : (cv A v).category = 2 := by rw [cv_cat]; exact hv
  have hr : rl[k]? = some rl[k] := List.getElem?_eq_getElem hk'
  have hr1 : rl[k + 1]? = some rl[k + 1] := List.getElem?_eq_getElem hk1
  have hlen : (st2 Ls k v).length = Ls.length := by simp [st2, cl1_len]
  have fin : ∀ rl' : List Slot, rl'.length = rl.length → rl'[k]? = some (.val (cv A v)) → rl'[k + 1]? = some .second →
      (∀ j, j ≠ k → j ≠ k + 1 → (rl'[j]? = rl[j]? ∧ ¬ (j + 1 = k ∧ rl[k]? = some .second) ∧ ¬ (j = k + 2 ∧ ∃ u : Value, rl[k + 1]? = some (.val u) ∧ u.category = 2)) ∨ (rl'[j]? = some .unset ∧ ((j + 1 = k ∧ rl[k]? = some .second) ∨ (j = k + 2 ∧ ∃ u : Value, rl[k + 1]? = some (.val u) ∧ u.category = 2)))) → LsOk A (st2 Ls k v) rl' := by
    intro rl' e0 h0 h1 hj
    refine ⟨by omega, wp2 hw hcat h0 h1 hj, fun j u h => ?_⟩
    unfold st2 at h
    rw [List.getElem?_set] at h
    split at h
    · first | cases h | (split at h <;> cases h)
    · rename_i n2
      rw [List.getElem?_set] at h
      split at h
      · rename_i e; subst e
        split at h
        · cases h; exact h0
        · cases h
      · rename_i n1
        obtain ⟨a1, a2⟩ := cl1_val h
        have a3 := hc j u a1
        rcases hj j (fun e => n1 e.symm) (fun e => n2 e.symm) with ⟨q, -⟩ | ⟨-, ⟨z1, z2⟩ | ⟨z1, y, z2, z3⟩⟩
        · rw [q]; exact a3
        · obtain ⟨k', y1, w', y2, y3⟩ := (hw k).mp z2
          have : k' = j := by omega
          subst this
          rw [a3] at y2; cases y2
          rw [cv_cat] at y3
          exact absurd y3 (a2 y1)
        · have := (hw (k + 2)).mpr ⟨k + 1, rfl, y, z2, z3⟩
          rw [← z1, a3] at this; cases this
  by_cases c2 : ∃ u : Value, rl[k + 1]? = some (.val u) ∧ u.category = 2
  · obtain ⟨u, u1, u2⟩ := c2
    have hs1 : rl[k + 1] = .val u := by rw [u1] at hr1; exact (Option.some.inj hr1).symm
    have h3 : rl[k + 2]? = some .second := (hw (k + 2)).mpr ⟨k + 1, rfl, u, u1, u2⟩
    have hk2 : k + 2 < rl.length := (List.getElem?_eq_some_iff.mp h3).1
    cases hs : rl[k] with
    | unset =>
      rw [hs] at hr
      refine ⟨((rl.set k (.val (cv A v))).set (k + 2) .unset).set (k + 1) .second, by simp [storeLocals, storeSelf, setAt, hr, hs, hcat, hk', hk1, hk2, u1, u2, hs1], fin _ (by simp) (by simp [List.getElem?_set, hk']) (by simp [List.getElem?_set, hk1]) fun j n1 n2 => ?_⟩
      by_cases e : j = k + 2
      · subst e; exact Or.inr ⟨by simp [List.getElem?_set, hk2], Or.inr ⟨rfl, u, u1, u2⟩⟩
      · exact Or.inl ⟨by simp [List.getElem?_set, Ne.symm n1, Ne.symm n2, Ne.symm e], fun q => (by rw [hr] at q; cases q.2), fun q => e q.1⟩
    | second =>
      rw [hs] at hr
      obtain ⟨k', rfl, w0, hw1, hw2⟩ := (hw k).mp hr
      have ev : ∀ l1 : List Slot, l1.length = rl.length → l1[k' + 1 + 1]? = some (.val u) → storeSelf l1.toArray (k' + 1) (cv A v) = some (((l1.set (k' + 1) (.val (cv A v))).set (k' + 1 + 2) .unset).set (k' + 1 + 1) .second).toArray := by
        intro l1 e1 e2
        have a1 : k' + 1 < l1.length := by omega
        have a2 : k' + 1 + 1 < l1.length := by omega
        have a3 : k' + 1 + 2 < l1.length := by omega
        have a4 : l1[k' + 1 + 1] = .val u := by rw [List.getElem?_eq_getElem a2] at e2; exact Option.some.inj e2
        simp [storeSelf, setAt, hcat, a1, a2, a3, a4, u2]
      have hk0 : k' < rl.length := by omega
      refine ⟨(((rl.set k' .unset).set (k' + 1) (.val (cv A v))).set (k' + 1 + 2) .unset).set (k' + 1 + 1) .second, by
        simp only [storeLocals, List.getElem?_toArray, hr, Option.bind_eq_bind, Option.bind_some, setAt, List.size_toArray, Nat.add_sub_cancel, if_pos hk0, List.setIfInBounds_toArray]
        exact ev _ (by simp) (by rw [List.getElem?_set, if_neg (by omega)]; exact u1), fin _ (by simp) (by simp [List.getElem?_set, hk']) (by simp [List.getElem?_set, hk1]) fun j n1 n2 => ?_⟩
      by_cases e : j = k' + 1 + 2
      · subst e; exact Or.inr ⟨by simp [List.getElem?_set, hk2], Or.inr ⟨rfl, u, u1, u2⟩⟩
      by_cases e' : j = k'
      · subst e'; exact Or.inr ⟨by rw [List.getElem?_set, if_neg (by omega), List.getElem?_set, if_neg (by omega), List.getElem?_set, if_neg (by omega), List.getElem?_set, if_pos rfl, if_pos hk0], Or.inl ⟨rfl, hr⟩⟩
      · exact Or.inl ⟨by simp [List.getElem?_set, Ne.symm n1, Ne.symm n2, Ne.symm e, Ne.symm e'], fun q => e' (by omega), fun q => e q.1⟩
    | val r =>
      rw [hs] at hr
      have hr2 : r.category ≠ 2 := fun q => by
        have := (hw (k + 1)).mpr ⟨k, rfl, r, hr, q⟩
        rw [u1] at this; cases this
      refine ⟨((rl.set k (.val (cv A v))).set (k + 2) .unset).set (k + 1) .second, by simp [storeLocals, storeSelf, setAt, hr, hs, hcat, hk', hk1, hk2, u1, u2, hs1, hr2], fin _ (by simp) (by simp [List.getElem?_set, hk']) (by simp [List.getElem?_set, hk1]) fun j n1 n2 => ?_⟩
      by_cases e : j = k + 2
      · subst e; exact Or.inr ⟨by simp [List.getElem?_set, hk2], Or.inr ⟨rfl, u, u1, u2⟩⟩
      · exact Or.inl ⟨by simp [List.getElem?_set, Ne.symm n1, Ne.symm n2, Ne.symm e], fun q => (by rw [hr] at q; cases q.2), fun q => e q.1⟩
  · have hself : ∀ l1 : List Slot, l1.length = rl.length → (∀ u : Value, l1[k + 1]? = some (.val u) → u.category ≠ 2) → storeSelf l1.toArray k (cv A v) = some ((l1.set k (.val (cv A v))).set (k + 1) .second).toArray := by
      intro l1 e1 e2
      have a1 : k < l1.length := by omega
      have a2 : k + 1 < l1.length := by omega
      have a3 : l1[k + 1]? = some l1[k + 1] := List.getElem?_eq_getElem a2
      cases hq : l1[k + 1] with
      | unset => simp [storeSelf, setAt, hcat, a1, a2, hq]
      | second => simp [storeSelf, setAt, hcat, a1, a2, hq]
      | val y =>
        have : y.category ≠ 2 := e2 y (by rw [a3, hq])
        simp [storeSelf, setAt, hcat, a1, a2, hq, this]
    have hno : ∀ u : Value, rl[k + 1]? = some (.val u) → u.category ≠ 2 := fun u h1 h2 => c2 ⟨u, h1, h2⟩
    cases hs : rl[k] with
    | unset =>
      rw [hs] at hr
      refine ⟨(rl.set k (.val (cv A v))).set (k + 1) .second, by simp only [storeLocals, List.getElem?_toArray, hr, Option.bind_eq_bind, Option.bind_some]; exact hself rl rfl hno, fin _ (by simp) (by simp [List.getElem?_set, hk']) (by simp [List.getElem?_set, hk1]) fun j n1 n2 => ?_⟩
      exact Or.inl ⟨by simp [List.getElem?_set, Ne.symm n1, Ne.symm n2], fun q => (by rw [hr] at q; cases q.2), fun q => c2 q.2⟩
    | second =>
      rw [hs] at hr
      obtain ⟨k', rfl, w0, hw1, hw2⟩ := (hw k).mp hr
      have hk0 : k' < rl.length := by omega
      refine ⟨((rl.set k' .unset).set (k' + 1) (.val (cv A v))).set (k' + 1 + 1) .second, ?_, fin _ (by simp) (by simp [List.getElem?_set, hk']) (by simp [List.getElem?_set, hk1]) fun j n1 n2 => ?_⟩
      · have := hself (rl.set k' .unset) (by simp) (fun u h => hno u (by rw [List.getElem?_set, if_neg (by omega)] at h; exact h))
        simp only [storeLocals, List.getElem?_toArray, hr, Option.bind_eq_bind, Option.bind_some, setAt, List.size_toArray, Nat.add_sub_cancel, if_pos hk0, List.setIfInBounds_toArray]
        exact this
      · by_cases e' : j = k'
        · subst e'; exact Or.inr ⟨by rw [List.getElem?_set, if_neg (by omega), List.getElem?_set, if_neg (by omega), List.getElem?_set, if_pos rfl, if_pos hk0], Or.inl ⟨rfl, hr⟩⟩
        · exact Or.inl ⟨by simp [List.getElem?_set, Ne.symm n1, Ne.symm n2, Ne.symm e'], fun q => e' (by omega), fun q => c2 q.2⟩
    | val r =>
      rw [hs] at hr
      by_cases hr2 : r.category = 2
      · refine ⟨(rl.set k (.val (cv A v))).set (k + 1) .second, ?_, fin _ (by simp) (by simp [List.getElem?_set, hk']) (by simp [List.getElem?_set, hk1]) fun j n1 n2 => ?_⟩
        · have := hself (rl.set (k + 1) .unset) (by simp) (fun u h => by rw [List.getElem?_set, if_pos rfl] at h; split at h <;> cases h)
          simp only [storeLocals, List.getElem?_toArray, hr, Option.bind_eq_bind, Option.bind_some, if_pos hr2, setAt, List.size_toArray, if_pos hk1, List.setIfInBounds_toArray]
          rw [this]
          congr 2
          apply List.ext_getElem?
          intro j
          simp only [List.getElem?_set, List.length_set]
          by_cases e : k + 1 = j
          · simp [e]
          · simp [e]
        · exact Or.inl ⟨by simp [List.getElem?_set, Ne.symm n1, Ne.symm n2], fun q => (by rw [hr] at q; cases q.2), fun q => c2 q.2⟩
      · refine ⟨(rl.set k (.val (cv A v))).set (k + 1) .second, by simp only [storeLocals, List.getElem?_toArray, hr, Option.bind_eq_bind, Option.bind_some, if_neg hr2]; exact hself rl rfl hno, fin _ (by simp) (by simp [List.getElem?_set, hk']) (by simp [List.getElem?_set, hk1]) fun j n1 n2 => ?_⟩
        exact Or.inl ⟨by simp [List.getElem?_set, Ne.symm n1, Ne.symm n2], fun q => (by rw [hr] at q; cases q.2), fun q => c2 q.2⟩

def Cx (p : Program) (s : State) (m : MethodId) (meth : Method) (c : Code) (Z : State) (own : String) (bytes : ByteArray) (maxL : Nat) (ret : Option FieldType) (mn : String) : Prop :=
  p.tables.exec = Jvm.exec ∧ Z.Warmed39 s.vm ∧ c.code = bytes ∧ s.vm.findClass own = some m.cls ∧ c.maxLocals = maxL ∧ meth.sig.returnType = ret ∧ meth.locks = false ∧ meth.name = mn
def OkR (p : Program) (l : Launch) (e : Env) (R : Room) (s : State) (m : MethodId) (args : Array Value) (below : List Frame) (meth : Method) (c : Code) (Z : State) (C : String) (fs : FS) (n0 : Nat) (h0 : Heap) {α : Type} (F : α → Option Value → Heap → Prop) (A : Nat → Addr) (w : Nat → Option CD) (cells slots pc : Nat) (Ls : List Slot) (St : List Value) (σ : Sg) (t : Option α) : Prop :=
  ∀ x, t = some x → ∀ (T : State) (locs : List Loc) (rl : List Slot), Stand p l e R s m args below meth c T locs cells slots → Wd Z C fs T.heap A w σ → Out h0 T.heap A w → Nw n0 A w → Fr n0 locs → LsOk A Ls rl →
    ∃ (s₂ : State) (o : Outcome), Steps p.tables e below (T.setTop (mkF m pc rl.toArray (St.map (cv A)))) s₂ ∧ s₂.status = .running ∧ Ended s₂ below o ∧ ∃ (v : Option Value) (L : List Loc), o = .returned v ∧ (F x v s₂.heap ∧ Fr n0 L) ∧ FrameEnd s o s₂ L R.cells R.slots
def lkp {β : Type} : List (Nat × β) → Nat → Option β
  | [], _ => none
  | (a, b) :: r, k => if a = k then some b else lkp r k
theorem lkp_mem {β : Type} : ∀ {l : List (Nat × β)} {k : Nat} {b : β}, lkp l k = some b → (k, b) ∈ l
  | (a, b') :: r, k, b, h => by
    unfold lkp at h
    split at h
    · rename_i e; subst e; cases h; exact List.mem_cons_self
    · exact List.mem_cons_of_mem _ (lkp_mem h)
def ilen : Instr → Nat
  | .bipush _ => 2
  | .sipush _ => 3
  | .ldc _ => 2
  | .ldc2_w _ => 3
  | .iload _ => 2
  | .lload _ => 2
  | .aload _ => 2
  | .istore _ => 2
  | .lstore _ => 2
  | .astore _ => 2
  | .iinc _ _ => 3
  | .getfield _ => 3
  | .putfield _ => 3
  | .goto _ => 3
  | _ => 1
def npc (pc : Nat) : Instr → Nat
  | .goto o => ((pc : Int) + o).toNat
  | i => pc + ilen i
def jok (pc : Nat) : Instr → Bool
  | .goto o => decide (0 ≤ (pc : Int) + o)
  | _ => true
def ic : Int → Int32
  | .negSucc 0 => -1
  | k => Int32.ofInt k
theorem ic_eq (k : Int) : ic k = Int32.ofInt k := by
  unfold ic; split <;> rfl
theorem x_sipush {tb : Tables} [Ours tb] {e : Env} {below : List Frame} {T target : State} {m : MethodId} {c : Code} {g : JFrame} (h : At T m c below) (hx : tb.exec = Jvm.exec) (hg : g.method = m) {i : Int} (hd : decode c.code g.pc = .ok (.sipush i, 3))
    (hr : Steps tb e below (T.setTop { g with pc := g.pc + 3, stack := .int (Int16.ofInt i).toInt32 :: g.stack }) target) : Steps tb e below (T.setTop g) target := by
  subst hg
  jvm_step h [h.top, hx, hd]
  exact hr
def ev1 (w : Nat → Option CD) (fs : FS) (fl pfl : List (Nat × Nat)) (kI : List (Nat × Int32)) (kJ : List (Nat × Int64)) (i : Instr) (Ls : List Slot) (St : List Value) (σ : Sg) : Option (List Slot × List Value × Sg) :=
  match i with
  | .iadd => match St with
    | .int y :: .int x :: r => some (Ls, .int (x + y) :: r, σ)
    | _ => none
  | .isub => match St with
    | .int y :: .int x :: r => some (Ls, .int (x - y) :: r, σ)
    | _ => none
  | .imul => match St with
    | .int y :: .int x :: r => some (Ls, .int (x * y) :: r, σ)
    | _ => none
  | .iand => match St with
    | .int y :: .int x :: r => some (Ls, .int (x &&& y) :: r, σ)
    | _ => none
  | .ior => match St with
    | .int y :: .int x :: r => some (Ls, .int (x ||| y) :: r, σ)
    | _ => none
  | .ixor => match St with
    | .int y :: .int x :: r => some (Ls, .int (x ^^^ y) :: r, σ)
    | _ => none
  | .ishl => match St with
    | .int y :: .int x :: r => some (Ls, .int (x <<< (y &&& 31)) :: r, σ)
    | _ => none
  | .ishr => match St with
    | .int y :: .int x :: r => some (Ls, .int (x >>> (y &&& 31)) :: r, σ)
    | _ => none
  | .iushr => match St with
    | .int y :: .int x :: r => some (Ls, .int (XT.ushr x y) :: r, σ)
    | _ => none
  | .ladd => match St with
    | .long y :: .long x :: r => some (Ls, .long (x + y) :: r, σ)
    | _ => none
  | .lsub => match St with
    | .long y :: .long x :: r => some (Ls, .long (x - y) :: r, σ)
    | _ => none
  | .lmul => match St with
    | .long y :: .long x :: r => some (Ls, .long (x * y) :: r, σ)
    | _ => none
  | .land => match St with
    | .long y :: .long x :: r => some (Ls, .long (x &&& y) :: r, σ)
    | _ => none
  | .lor => match St with
    | .long y :: .long x :: r => some (Ls, .long (x ||| y) :: r, σ)
    | _ => none
  | .lxor => match St with
    | .long y :: .long x :: r => some (Ls, .long (x ^^^ y) :: r, σ)
    | _ => none
  | .lshl => match St with
    | .int y :: .long x :: r => some (Ls, .long (x <<< (y.toInt64 &&& 63)) :: r, σ)
    | _ => none
  | .lushr => match St with
    | .int y :: .long x :: r => some (Ls, .long (XT.ushrL x y) :: r, σ)
    | _ => none
  | .lshr => match St with
    | .int y :: .long x :: r => some (Ls, .long (x >>> (y.toInt64 &&& 63)) :: r, σ)
    | _ => none
  | .lcmp => match St with
    | .long y :: .long x :: r => some (Ls, .int (XT.cmpL x y) :: r, σ)
    | _ => none
  | .ineg => match St with
    | .int x :: r => some (Ls, .int (-x) :: r, σ)
    | _ => none
  | .lneg => match St with
    | .long x :: r => some (Ls, .long (-x) :: r, σ)
    | _ => none
  | .i2l => match St with
    | .int x :: r => some (Ls, .long (x.toInt64) :: r, σ)
    | _ => none
  | .l2i => match St with
    | .long x :: r => some (Ls, .int (x.toInt32) :: r, σ)
    | _ => none
  | .i2b => match St with
    | .int x :: r => some (Ls, .int (x.toInt8.toInt32) :: r, σ)
    | _ => none
  | .iconst k => some (Ls, .int (ic k) :: St, σ)
  | .bipush k => some (Ls, .int (Int8.ofInt k).toInt32 :: St, σ)
  | .sipush k => some (Ls, .int (Int16.ofInt k).toInt32 :: St, σ)
  | .lconst k => some (Ls, .long (Int64.ofNat k) :: St, σ)
  | .ldc i => match lkp kI i with
    | some v => some (Ls, .int v :: St, σ)
    | none => none
  | .ldc2_w i => match lkp kJ i with
    | some v => some (Ls, .long v :: St, σ)
    | none => none
  | .iload_n k => match Ls[k.val]? with
    | some (.val (.int v)) => some (Ls, .int v :: St, σ)
    | _ => none
  | .iload k => match Ls[k]? with
    | some (.val (.int v)) => some (Ls, .int v :: St, σ)
    | _ => none
  | .lload_n k => match Ls[k.val]? with
    | some (.val (.long v)) => some (Ls, .long v :: St, σ)
    | _ => none
  | .lload k => match Ls[k]? with
    | some (.val (.long v)) => some (Ls, .long v :: St, σ)
    | _ => none
  | .aload_n k => match Ls[k.val]? with
    | some (.val (.ref v)) => some (Ls, .ref v :: St, σ)
    | _ => none
  | .aload k => match Ls[k]? with
    | some (.val (.ref v)) => some (Ls, .ref v :: St, σ)
    | _ => none
  | .istore_n k => match St with
    | .int v :: r => if k.val < Ls.length then some (st1 Ls k.val (.int v), r, σ) else none
    | _ => none
  | .istore k => match St with
    | .int v :: r => if k < Ls.length then some (st1 Ls k (.int v), r, σ) else none
    | _ => none
  | .astore_n k => match St with
    | .ref v :: r => if k.val < Ls.length then some (st1 Ls k.val (.ref v), r, σ) else none
    | _ => none
  | .astore k => match St with
    | .ref v :: r => if k < Ls.length then some (st1 Ls k (.ref v), r, σ) else none
    | _ => none
  | .lstore_n k => match St with
    | .long v :: r => if k.val + 1 < Ls.length then some (st2 Ls k.val (.long v), r, σ) else none
    | _ => none
  | .lstore k => match St with
    | .long v :: r => if k + 1 < Ls.length then some (st2 Ls k (.long v), r, σ) else none
    | _ => none
  | .iinc k c => match Ls[k]? with
    | some (.val (.int v)) => if k < Ls.length then some (st1 Ls k (.int (v + ic c)), St, σ) else none
    | _ => none
  | .dup => match St with
    | .ref v :: r => some (Ls, .ref v :: .ref v :: r, σ)
    | .int v :: r => some (Ls, .int v :: .int v :: r, σ)
    | _ => none
  | .pop => match St with
    | .int v :: r => some (Ls, r, σ)
    | _ => none
  | .goto _ => some (Ls, St, σ)
  | .getfield i => match St with
    | .ref k :: r => match w k with
      | some (.inl q) => match lkp fl i with
        | some j => match fs[j]? with
          | some (_, _, cd) => some (Ls, fv σ k j q cd :: r, σ)
          | none => none
        | none => none
      | _ => none
    | _ => none
  | .putfield i => match St with
    | .int x :: .ref k :: r => match w k with
      | some (.inl _) => match lkp pfl i with
        | some j => match fs[j]? with
          | some (_, _, 0) => some (Ls, r, si σ k j x)
          | _ => none
        | none => none
      | _ => none
    | .long x :: .ref k :: r => match w k with
      | some (.inl _) => match lkp pfl i with
        | some j => match fs[j]? with
          | some (_, _, 1) => some (Ls, r, sj σ k j x)
          | _ => none
        | none => none
      | _ => none
    | _ => none
  | _ => none

def FsOk (Z : State) (a0 : Array Value) (C : String) (fs : FS) : Prop := ∀ (j : Nat) (n d : String) (cd : Nat), fs[j]? = some (n, d, cd) → Laid Z a0 C C n d ∧ (∃ ty, parseFieldDescriptor d = some ty ∧ (cd = 0 → ty = .int) ∧ (cd = 1 → ty = .long) ∧ (2 ≤ cd → ∃ t, ty = .array t)) ∧ ∀ (j' : Nat) (n' d' : String) (cd' : Nat), fs[j']? = some (n', d', cd') → n = n' → j = j'
def Lay1 (Z : State) (a0 : Array Value) (C own mn n d : String) : Prop := (Cond.lays C C n d).before a0 Z = true ∨ ((Cond.laysFinal C C n d).before a0 Z = true ∧ own = C ∧ mn = "<init>")
def Tab (Z : State) (a0 : Array Value) (C own mn : String) (fs : FS) (fl pfl : List (Nat × Nat)) (kI : List (Nat × Int32)) (kJ : List (Nat × Int64)) : Prop :=
  (∀ x ∈ fl, ∃ n d cd, fs[x.2]? = some (n, d, cd) ∧ (Cond.fieldLink own x.1 C n d).before a0 Z = true) ∧ (∀ x ∈ pfl, ∃ n d cd, fs[x.2]? = some (n, d, cd) ∧ (Cond.fieldLink own x.1 C n d).before a0 Z = true ∧ Lay1 Z a0 C own mn n d) ∧
  (∀ x ∈ kI, (Cond.constant own x.1 x.2).before a0 Z = true) ∧ ∀ x ∈ kJ, (Cond.constantLong own x.1 x.2).before a0 Z = true
section AM
variable {p : Program} {l : Launch} {e : Env} {R : Room} {s : State} {m : MethodId} {args : Array Value} {below : List Frame} {meth : Method} {c : Code} {Z : State} {a0 : Array Value} {C own : String} {bytes : ByteArray} {maxL : Nat} {ret : Option FieldType} {mn : String} {fs : FS} {fl pfl : List (Nat × Nat)} {kI : List (Nat × Int32)} {kJ : List (Nat × Int64)} {n0 kk : Nat} {h0 : Heap} {α : Type} {F : α → Option Value → Heap → Prop} {A : Nat → Addr} {w : Nat → Option CD} {cells slots pc : Nat} {Ls Ls' : List Slot} {St St' : List Value} {σ σ' : Sg} {t : Option α}
theorem am_ld {rl : List Slot} (L : LsOk A Ls rl) {k : Nat} {v : Value} (h : Ls[k]? = some (.val v)) : rl.toArray[k]? = some (.val (cv A v)) := by
  rw [List.getElem?_toArray]; exact L.2.2 k v h
theorem am_none (h : t = none) : OkR p l e R s m args below meth c Z C fs n0 h0 F A w cells slots pc Ls St σ t := fun x hx => by rw [h] at hx; cases hx
/-- one place of cell k is written -/
theorem Wd.write {h h' : Heap} {k sl : Nat} {v : Value} {d : CD} (W : Wd Z C fs h A w σ) (hk : w k = some d) (Q : Wr h h' (A k) sl v) (hσ : ∀ k', k' ≠ k → ∀ i, gi σ' k' i = gi σ k' i ∧ gj σ' k' i = gj σ k' i) (hok : CellOk Z C fs h' A σ' k d) : Wd Z C fs h' A w σ' := by
  refine ⟨fun k' d' hk' => ?_, W.2⟩
  by_cases ek : k' = k
  · subst ek; rw [hk] at hk'; cases hk'; exact hok
  · have ne : A k' ≠ A k := fun q => ek (W.2 _ _ _ _ hk' hk q)
    have := W.1 k' d' hk'
    rcases d' with q | ⟨ty, n, o⟩
    · refine ⟨this.1.wr Q, fun j n d cd hj => ?_⟩
      have e1 : fv σ' k' j q cd = fv σ k' j q cd := by
        match cd with
        | 0 => simp only [fv, (hσ k' ek j).1]
        | 1 => simp only [fv, (hσ k' ek j).2]
        | r + 2 => rfl
      rw [e1]
      exact (this.2 j n d cd hj).other Q (Or.inl ne)
    · obtain ⟨cl, a1, a2, a3⟩ := this
      refine ⟨cl, a1.other Q ne, a2, fun i hi => ?_⟩
      have e1 : aeo σ' k' i ty o = aeo σ k' i ty o := by
        cases o with
        | none => cases ty <;> simp only [aeo, ae, (hσ k' ek i).1, (hσ k' ek i).2]
        | some f => rfl
      rw [e1]; exact a3 i hi
theorem Out.write {h h' : Heap} {k sl : Nat} {v : Value} {d : CD} (O : Out h0 h A w) (hk : w k = some d) (hd : wrb d = true) (Q : Wr h h' (A k) sl v) : Out h0 h' A w := by
  refine ⟨by rw [Q.size]; exact O.1, fun b c hb hn => ?_⟩
  obtain ⟨cb, e1, -, -, -, e5, -⟩ := wr_at Q (O.2 b c hb hn)
  rw [← e5 (hn k d hk hd).symm]; exact e1
theorem si_off (σ : Sg) (k j : Nat) (x : Int32) : ∀ k', k' ≠ k → ∀ i, gi (si σ k j x) k' i = gi σ k' i ∧ gj (si σ k j x) k' i = gj σ k' i := fun k' ne i => ⟨by rw [gi_si, if_neg (fun q => ne q.1)], rfl⟩
theorem sj_off (σ : Sg) (k j : Nat) (x : Int64) : ∀ k', k' ≠ k → ∀ i, gi (sj σ k j x) k' i = gi σ k' i ∧ gj (sj σ k j x) k' i = gj σ k' i := fun k' ne i => ⟨rfl, by rw [gj_sj, if_neg (fun q => ne q.1)]⟩
theorem am_getf (hc : Cx p s m meth c Z own bytes maxL ret mn) {k q j i cd : Nat} {n d : String} (hk : w k = some (.inl q)) (hfs : fs[j]? = some (n, d, cd)) (wl : (Cond.fieldLink own i C n d).before a0 Z = true) (hd : decode bytes pc = .ok (.getfield i, 3))
    (κ : OkR p l e R s m args below meth c Z C fs n0 h0 F A w cells slots (pc + 3) Ls (fv σ k j q cd :: St) σ t) : OkR p l e R s m args below meth c Z C fs n0 h0 F A w cells slots pc Ls (.ref k :: St) σ t := by
  intro x hx T locs rl X W O N f L
  have Fd := (W.1 k _ hk).2 j n d cd hfs
  obtain ⟨T', X', e', st'⟩ := getF X hc.1 hc.2.1 hc.2.2.2.1 (host := "") (Or.inl wl) Via.refl rfl Fd (g := mkF m pc rl.toArray (.ref (A k) :: St.map (cv A))) rfl rfl (hb hc.2.2.1 hd)
  obtain ⟨s₂, o, st, r⟩ := κ x hx T' locs rl X' (by rw [e']; exact W) (by rw [e']; exact O) N f L
  exact ⟨s₂, o, st' _ st, r⟩
theorem am_putf (hc : Cx p s m meth c Z own bytes maxL ret mn) (hF : FsOk Z a0 C fs) (wi : (Cond.instantiable C kk).before a0 Z = true) {k q j i cd : Nat} {n d : String} {v : Value} (hk : w k = some (.inl q)) (hfs : fs[j]? = some (n, d, cd)) (wl : (Cond.fieldLink own i C n d).before a0 Z = true) (hL : Lay1 Z a0 C own mn n d) (hd : decode bytes pc = .ok (.putfield i, 3))
    (hv : (cd = 0 ∧ (∃ x, v = .int x) ∨ cd = 1 ∧ ∃ x, v = .long x)) (hfv : fv σ' k j q cd = v) (hcv : cv A v = v) (hσ : ∀ k', k' ≠ k → ∀ i, gi σ' k' i = gi σ k' i ∧ gj σ' k' i = gj σ k' i) (hσ2 : ∀ j', j' ≠ j → gi σ' k j' = gi σ k j' ∧ gj σ' k j' = gj σ k j')
    (κ : OkR p l e R s m args below meth c Z C fs n0 h0 F A w cells slots (pc + 3) Ls St σ' t) : OkR p l e R s m args below meth c Z C fs n0 h0 F A w cells slots pc Ls (v :: .ref k :: St) σ t := by
  intro x hx T locs rl X W O N f L
  have hO := W.1 k _ hk
  have Fd := hO.2 j n d cd hfs
  obtain ⟨hlaid, ⟨ty, hty, t0, t1, -⟩, hinj⟩ := hF j n d cd hfs
  have hn : narrow ty v = v ∧ fits ty v = true := by
    rcases hv with ⟨e, y, rfl⟩ | ⟨e, y, rfl⟩
    · rw [t0 e]; exact ⟨rfl, rfl⟩
    · rw [t1 e]; exact ⟨rfl, rfl⟩
  have hL' : (Cond.lays C C n d).before a0 Z = true ∨ ((Cond.laysFinal C C n d).before a0 Z = true ∧ own = C ∧ meth.name = "<init>") := hL.imp id fun q => ⟨q.1, q.2.1, hc.2.2.2.2.2.2.2.trans q.2.2⟩
  obtain ⟨T', h', X', e', Q, st'⟩ := putF X hc.1 hc.2.1 hc.2.2.2.1 (host := "") (Or.inl wl) Via.refl rfl Fd hO.1 hL' wi hty hn.1 hn.2 (g := mkF m pc rl.toArray (v :: .ref (A k) :: St.map (cv A))) rfl rfl (hb hc.2.2.1 hd)
  subst e'
  have W' : Wd Z C fs T'.heap A w σ' := by
    refine W.write hk Q hσ ⟨hO.1.wr Q, fun j' n' d' cd' hj' => ?_⟩
    by_cases ej : j' = j
    · subst ej
      rw [hfs] at hj'; cases hj'
      rw [hfv, hcv]
      exact Fd.same Q
    · obtain ⟨hlaid', ⟨ty', hty', -⟩, -⟩ := hF j' n' d' cd' hj'
      have e1 : fv σ' k j' q cd' = fv σ k j' q cd' := by
        match cd' with
        | 0 => simp only [fv, (hσ2 j' ej).1]
        | 1 => simp only [fv, (hσ2 j' ej).2]
        | r + 2 => rfl
      rw [e1]
      exact (hO.2 j' n' d' cd' hj').other Q (Or.inr (slot_ne hlaid' hlaid (fun q => ej (hinj _ _ _ _ hj' q.symm).symm) hty' hty))
  obtain ⟨s₂, o, st, r⟩ := κ x hx T' _ rl X' W' (O.write hk rfl Q) N (Fr.snoc X' f (N k _ hk rfl)) L
  have e2 : List.map (cv A) (v :: .ref k :: St) = v :: .ref (A k) :: St.map (cv A) := by rw [List.map_cons, List.map_cons, hcv]; rfl
  exact ⟨s₂, o, by rw [e2]; exact st' _ st, r⟩

set_option maxHeartbeats 4000000 in
theorem ev1_ok (hc : Cx p s m meth c Z own bytes maxL ret mn) (hT : Tab Z a0 C own mn fs fl pfl kI kJ) (hF : FsOk Z a0 C fs) (wi : (Cond.instantiable C kk).before a0 Z = true) {i : Instr} (hd : decode bytes pc = .ok (i, ilen i)) (hj : jok pc i = true) (hev : ev1 w fs fl pfl kI kJ i Ls St σ = some (Ls', St', σ'))
    (k : OkR p l e R s m args below meth c Z C fs n0 h0 F A w cells slots (npc pc i) Ls' St' σ' t) : OkR p l e R s m args below meth c Z C fs n0 h0 F A w cells slots pc Ls St σ t := by
  cases i
  case iadd =>
    simp only [ev1] at hev
    split at hev
    · cases hev
      intro x' hx T locs rl X W O N f L
      obtain ⟨s₂, o, st, r'⟩ := k x' hx T locs rl X W O N f L
      exact ⟨s₂, o, XS.iadd X.here hc.1 rfl (hb hc.2.2.1 hd) rfl st, r'⟩
    · cases hev
  case isub =>
    simp only [ev1] at hev
    split at hev
    · cases hev
      intro x' hx T locs rl X W O N f L
      obtain ⟨s₂, o, st, r'⟩ := k x' hx T locs rl X W O N f L
      exact ⟨s₂, o, XS.isub X.here hc.1 rfl (hb hc.2.2.1 hd) rfl st, r'⟩
    · cases hev
  case imul =>
    simp only [ev1] at hev
    split at hev
    · cases hev
      intro x' hx T locs rl X W O N f L
      obtain ⟨s₂, o, st, r'⟩ := k x' hx T locs rl X W O N f L
      exact ⟨s₂, o, XS.imul X.here hc.1 rfl (hb hc.2.2.1 hd) rfl st, r'⟩
    · cases hev
  case iand =>
    simp only [ev1] at hev
    split at hev
    · cases hev
      intro x' hx T locs rl X W O N f L
      obtain ⟨s₂, o, st, r'⟩ := k x' hx T locs rl X W O N f L
      exact ⟨s₂, o, XS.iand X.here hc.1 rfl (hb hc.2.2.1 hd) rfl st, r'⟩
    · cases hev
  case ior =>
    simp only [ev1] at hev
    split at hev
    · cases hev
      intro x' hx T locs rl X W O N f L
      obtain ⟨s₂, o, st, r'⟩ := k x' hx T locs rl X W O N f L
      exact ⟨s₂, o, XT.ior X.here hc.1 rfl (hb hc.2.2.1 hd) rfl st, r'⟩
    · cases hev
  case ixor =>
    simp only [ev1] at hev
    split at hev
    · cases hev
      intro x' hx T locs rl X W O N f L
      obtain ⟨s₂, o, st, r'⟩ := k x' hx T locs rl X W O N f L
      exact ⟨s₂, o, XT.ixor X.here hc.1 rfl (hb hc.2.2.1 hd) rfl st, r'⟩
    · cases hev
  case ishl =>
    simp only [ev1] at hev
    split at hev
    · cases hev
      intro x' hx T locs rl X W O N f L
      obtain ⟨s₂, o, st, r'⟩ := k x' hx T locs rl X W O N f L
      exact ⟨s₂, o, XT.ishl X.here hc.1 rfl (hb hc.2.2.1 hd) rfl st, r'⟩
    · cases hev
  case ishr =>
    simp only [ev1] at hev
    split at hev
    · cases hev
      intro x' hx T locs rl X W O N f L
      obtain ⟨s₂, o, st, r'⟩ := k x' hx T locs rl X W O N f L
      exact ⟨s₂, o, XT.ishr X.here hc.1 rfl (hb hc.2.2.1 hd) rfl st, r'⟩
    · cases hev
  case iushr =>
    simp only [ev1] at hev
    split at hev
    · cases hev
      intro x' hx T locs rl X W O N f L
      obtain ⟨s₂, o, st, r'⟩ := k x' hx T locs rl X W O N f L
      exact ⟨s₂, o, XT.iushr X.here hc.1 rfl (hb hc.2.2.1 hd) rfl st, r'⟩
    · cases hev
  case ladd =>
    simp only [ev1] at hev
    split at hev
    · cases hev
      intro x' hx T locs rl X W O N f L
      obtain ⟨s₂, o, st, r'⟩ := k x' hx T locs rl X W O N f L
      exact ⟨s₂, o, XT.ladd X.here hc.1 rfl (hb hc.2.2.1 hd) rfl st, r'⟩
    · cases hev
  case lsub =>
    simp only [ev1] at hev
    split at hev
    · cases hev
      intro x' hx T locs rl X W O N f L
      obtain ⟨s₂, o, st, r'⟩ := k x' hx T locs rl X W O N f L
      exact ⟨s₂, o, XT.lsub X.here hc.1 rfl (hb hc.2.2.1 hd) rfl st, r'⟩
    · cases hev
  case lmul =>
    simp only [ev1] at hev
    split at hev
    · cases hev
      intro x' hx T locs rl X W O N f L
      obtain ⟨s₂, o, st, r'⟩ := k x' hx T locs rl X W O N f L
      exact ⟨s₂, o, XT.lmul X.here hc.1 rfl (hb hc.2.2.1 hd) rfl st, r'⟩
    · cases hev
  case land =>
    simp only [ev1] at hev
    split at hev
    · cases hev
      intro x' hx T locs rl X W O N f L
      obtain ⟨s₂, o, st, r'⟩ := k x' hx T locs rl X W O N f L
      exact ⟨s₂, o, XT.land X.here hc.1 rfl (hb hc.2.2.1 hd) rfl st, r'⟩
    · cases hev
  case lor =>
    simp only [ev1] at hev
    split at hev
    · cases hev
      intro x' hx T locs rl X W O N f L
      obtain ⟨s₂, o, st, r'⟩ := k x' hx T locs rl X W O N f L
      exact ⟨s₂, o, XT.lor X.here hc.1 rfl (hb hc.2.2.1 hd) rfl st, r'⟩
    · cases hev
  case lxor =>
    simp only [ev1] at hev
    split at hev
    · cases hev
      intro x' hx T locs rl X W O N f L
      obtain ⟨s₂, o, st, r'⟩ := k x' hx T locs rl X W O N f L
      exact ⟨s₂, o, XT.lxor X.here hc.1 rfl (hb hc.2.2.1 hd) rfl st, r'⟩
    · cases hev
  case lshl =>
    simp only [ev1] at hev
    split at hev
    · cases hev
      intro x' hx T locs rl X W O N f L
      obtain ⟨s₂, o, st, r'⟩ := k x' hx T locs rl X W O N f L
      exact ⟨s₂, o, XT.lshl X.here hc.1 rfl (hb hc.2.2.1 hd) rfl st, r'⟩
    · cases hev
  case lushr =>
    simp only [ev1] at hev
    split at hev
    · cases hev
      intro x' hx T locs rl X W O N f L
      obtain ⟨s₂, o, st, r'⟩ := k x' hx T locs rl X W O N f L
      exact ⟨s₂, o, XT.lushr X.here hc.1 rfl (hb hc.2.2.1 hd) rfl st, r'⟩
    · cases hev
  case lshr =>
    simp only [ev1] at hev
    split at hev
    · cases hev
      intro x' hx T locs rl X W O N f L
      obtain ⟨s₂, o, st, r'⟩ := k x' hx T locs rl X W O N f L
      exact ⟨s₂, o, XT.lshr X.here hc.1 rfl (hb hc.2.2.1 hd) rfl st, r'⟩
    · cases hev
  case lcmp =>
    simp only [ev1] at hev
    split at hev
    · cases hev
      intro x' hx T locs rl X W O N f L
      obtain ⟨s₂, o, st, r'⟩ := k x' hx T locs rl X W O N f L
      exact ⟨s₂, o, XT.lcmp X.here hc.1 rfl (hb hc.2.2.1 hd) rfl st, r'⟩
    · cases hev
  case ineg =>
    simp only [ev1] at hev
    split at hev
    · cases hev
      intro x' hx T locs rl X W O N f L
      obtain ⟨s₂, o, st, r'⟩ := k x' hx T locs rl X W O N f L
      exact ⟨s₂, o, XS.ineg X.here hc.1 rfl (hb hc.2.2.1 hd) rfl st, r'⟩
    · cases hev
  case lneg =>
    simp only [ev1] at hev
    split at hev
    · cases hev
      intro x' hx T locs rl X W O N f L
      obtain ⟨s₂, o, st, r'⟩ := k x' hx T locs rl X W O N f L
      exact ⟨s₂, o, XT.lneg X.here hc.1 rfl (hb hc.2.2.1 hd) rfl st, r'⟩
    · cases hev
  case i2l =>
    simp only [ev1] at hev
    split at hev
    · cases hev
      intro x' hx T locs rl X W O N f L
      obtain ⟨s₂, o, st, r'⟩ := k x' hx T locs rl X W O N f L
      exact ⟨s₂, o, XT.i2l X.here hc.1 rfl (hb hc.2.2.1 hd) rfl st, r'⟩
    · cases hev
  case l2i =>
    simp only [ev1] at hev
    split at hev
    · cases hev
      intro x' hx T locs rl X W O N f L
      obtain ⟨s₂, o, st, r'⟩ := k x' hx T locs rl X W O N f L
      exact ⟨s₂, o, XT.l2i X.here hc.1 rfl (hb hc.2.2.1 hd) rfl st, r'⟩
    · cases hev
  case i2b =>
    simp only [ev1] at hev
    split at hev
    · cases hev
      intro x' hx T locs rl X W O N f L
      obtain ⟨s₂, o, st, r'⟩ := k x' hx T locs rl X W O N f L
      exact ⟨s₂, o, XT.i2b X.here hc.1 rfl (hb hc.2.2.1 hd) rfl st, r'⟩
    · cases hev
  case iconst k =>
    simp only [ev1] at hev
    cases hev
    · rw [ic_eq] at k
      intro x' hx T locs rl X W O N f L
      obtain ⟨s₂, o, st, r'⟩ := k x' hx T locs rl X W O N f L
      exact ⟨s₂, o, XS.iconst X.here hc.1 rfl (hb hc.2.2.1 hd) st, r'⟩
  case bipush k =>
    simp only [ev1] at hev
    cases hev
    · intro x' hx T locs rl X W O N f L
      obtain ⟨s₂, o, st, r'⟩ := k x' hx T locs rl X W O N f L
      exact ⟨s₂, o, XS.bipush X.here hc.1 rfl (hb hc.2.2.1 hd) st, r'⟩
  case sipush k =>
    simp only [ev1] at hev
    cases hev
    · intro x' hx T locs rl X W O N f L
      obtain ⟨s₂, o, st, r'⟩ := k x' hx T locs rl X W O N f L
      exact ⟨s₂, o, x_sipush X.here hc.1 rfl (hb hc.2.2.1 hd) st, r'⟩
  case lconst k =>
    simp only [ev1] at hev
    cases hev
    · intro x' hx T locs rl X W O N f L
      obtain ⟨s₂, o, st, r'⟩ := k x' hx T locs rl X W O N f L
      exact ⟨s₂, o, XT.lconst X.here hc.1 rfl (hb hc.2.2.1 hd) st, r'⟩
  case ldc i =>
    simp only [ev1] at hev
    split at hev
    · cases hev
      rename_i v hv
      intro x' hx T locs rl X W O N f L
      obtain ⟨s₂, o, st, r'⟩ := k x' hx T locs rl X W O N f L
      exact ⟨s₂, o, X.ldcI hc.1 hc.2.2.2.1 (mv hc.2.1 (hT.2.2.1 _ (lkp_mem hv))) rfl (hb hc.2.2.1 hd) st, r'⟩
    · cases hev
  case ldc2_w i =>
    simp only [ev1] at hev
    split at hev
    · cases hev
      rename_i v hv
      intro x' hx T locs rl X W O N f L
      obtain ⟨s₂, o, st, r'⟩ := k x' hx T locs rl X W O N f L
      exact ⟨s₂, o, X.ldc2J hc.1 hc.2.2.2.1 (mv hc.2.1 (hT.2.2.2 _ (lkp_mem hv))) rfl (hb hc.2.2.1 hd) st, r'⟩
    · cases hev
  case iload_n n =>
    simp only [ev1] at hev
    split at hev
    · cases hev
      rename_i v hv
      intro x' hx T locs rl X W O N f L
      obtain ⟨s₂, o, st, r'⟩ := k x' hx T locs rl X W O N f L
      exact ⟨s₂, o, XS.iloadN X.here hc.1 rfl (hb hc.2.2.1 hd) (am_ld L hv) st, r'⟩
    · cases hev
  case iload n =>
    simp only [ev1] at hev
    split at hev
    · cases hev
      rename_i v hv
      intro x' hx T locs rl X W O N f L
      obtain ⟨s₂, o, st, r'⟩ := k x' hx T locs rl X W O N f L
      exact ⟨s₂, o, XS.iload X.here hc.1 rfl (hb hc.2.2.1 hd) (am_ld L hv) st, r'⟩
    · cases hev
  case lload_n n =>
    simp only [ev1] at hev
    split at hev
    · cases hev
      rename_i v hv
      intro x' hx T locs rl X W O N f L
      obtain ⟨s₂, o, st, r'⟩ := k x' hx T locs rl X W O N f L
      exact ⟨s₂, o, XT.lloadN X.here hc.1 rfl (hb hc.2.2.1 hd) (am_ld L hv) st, r'⟩
    · cases hev
  case lload n =>
    simp only [ev1] at hev
    split at hev
    · cases hev
      rename_i v hv
      intro x' hx T locs rl X W O N f L
      obtain ⟨s₂, o, st, r'⟩ := k x' hx T locs rl X W O N f L
      exact ⟨s₂, o, XT.lload X.here hc.1 rfl (hb hc.2.2.1 hd) (am_ld L hv) st, r'⟩
    · cases hev
  case aload_n n =>
    simp only [ev1] at hev
    split at hev
    · cases hev
      rename_i v hv
      intro x' hx T locs rl X W O N f L
      obtain ⟨s₂, o, st, r'⟩ := k x' hx T locs rl X W O N f L
      exact ⟨s₂, o, XS.aloadN X.here hc.1 rfl (hb hc.2.2.1 hd) (am_ld L hv) rfl st, r'⟩
    · cases hev
  case aload n =>
    simp only [ev1] at hev
    split at hev
    · cases hev
      rename_i v hv
      intro x' hx T locs rl X W O N f L
      obtain ⟨s₂, o, st, r'⟩ := k x' hx T locs rl X W O N f L
      exact ⟨s₂, o, XS.aload X.here hc.1 rfl (hb hc.2.2.1 hd) (am_ld L hv) rfl st, r'⟩
    · cases hev
  case istore_n n =>
    simp only [ev1] at hev
    split at hev
    · split at hev
      · cases hev
        rename_i v hk
        intro x' hx T locs rl X W O N f L
        obtain ⟨rl', hst, L'⟩ := am_st1 (v := .int v) L hk rfl
        obtain ⟨s₂, o, st, r'⟩ := k x' hx T locs rl' X W O N f L'
        exact ⟨s₂, o, XS.istoreN X.here hc.1 rfl (hb hc.2.2.1 hd) rfl hst st, r'⟩
      · cases hev
    · cases hev
  case istore n =>
    simp only [ev1] at hev
    split at hev
    · split at hev
      · cases hev
        rename_i v hk
        intro x' hx T locs rl X W O N f L
        obtain ⟨rl', hst, L'⟩ := am_st1 (v := .int v) L hk rfl
        obtain ⟨s₂, o, st, r'⟩ := k x' hx T locs rl' X W O N f L'
        exact ⟨s₂, o, XS.istore X.here hc.1 rfl (hb hc.2.2.1 hd) rfl hst st, r'⟩
      · cases hev
    · cases hev
  case astore_n n =>
    simp only [ev1] at hev
    split at hev
    · split at hev
      · cases hev
        rename_i v hk
        intro x' hx T locs rl X W O N f L
        obtain ⟨rl', hst, L'⟩ := am_st1 (v := .ref v) L hk rfl
        obtain ⟨s₂, o, st, r'⟩ := k x' hx T locs rl' X W O N f L'
        exact ⟨s₂, o, XS.astoreN X.here hc.1 rfl (hb hc.2.2.1 hd) rfl rfl hst st, r'⟩
      · cases hev
    · cases hev
  case astore n =>
    simp only [ev1] at hev
    split at hev
    · split at hev
      · cases hev
        rename_i v hk
        intro x' hx T locs rl X W O N f L
        obtain ⟨rl', hst, L'⟩ := am_st1 (v := .ref v) L hk rfl
        obtain ⟨s₂, o, st, r'⟩ := k x' hx T locs rl' X W O N f L'
        exact ⟨s₂, o, XS.astore X.here hc.1 rfl (hb hc.2.2.1 hd) rfl rfl hst st, r'⟩
      · cases hev
    · cases hev
  case lstore_n n =>
    simp only [ev1] at hev
    split at hev
    · split at hev
      · cases hev
        rename_i v hk
        intro x' hx T locs rl X W O N f L
        obtain ⟨rl', hst, L'⟩ := am_st2 (v := .long v) L hk rfl
        obtain ⟨s₂, o, st, r'⟩ := k x' hx T locs rl' X W O N f L'
        exact ⟨s₂, o, XT.lstoreN X.here hc.1 rfl (hb hc.2.2.1 hd) rfl hst st, r'⟩
      · cases hev
    · cases hev
  case lstore n =>
    simp only [ev1] at hev
    split at hev
    · split at hev
      · cases hev
        rename_i v hk
        intro x' hx T locs rl X W O N f L
        obtain ⟨rl', hst, L'⟩ := am_st2 (v := .long v) L hk rfl
        obtain ⟨s₂, o, st, r'⟩ := k x' hx T locs rl' X W O N f L'
        exact ⟨s₂, o, XT.lstore X.here hc.1 rfl (hb hc.2.2.1 hd) rfl hst st, r'⟩
      · cases hev
    · cases hev
  case iinc n cst =>
    simp only [ev1] at hev
    split at hev
    · split at hev
      · cases hev
        rename_i v hv hk
        intro x' hx T locs rl X W O N f L
        obtain ⟨rl', hst, L'⟩ := am_st1 (v := .int (v + ic cst)) L hk rfl
        obtain ⟨s₂, o, st, r'⟩ := k x' hx T locs rl' X W O N f L'
        exact ⟨s₂, o, XS.iinc X.here hc.1 rfl (hb hc.2.2.1 hd) (am_ld L hv) (by rw [← ic_eq]; exact hst) st, r'⟩
      · cases hev
    · cases hev
  case dup =>
    simp only [ev1] at hev
    split at hev
    · cases hev
      intro x' hx T locs rl X W O N f L
      obtain ⟨s₂, o, st, r'⟩ := k x' hx T locs rl X W O N f L
      exact ⟨s₂, o, XS.dup X.here hc.1 rfl (hb hc.2.2.1 hd) rfl rfl st, r'⟩
    · cases hev
      intro x' hx T locs rl X W O N f L
      obtain ⟨s₂, o, st, r'⟩ := k x' hx T locs rl X W O N f L
      exact ⟨s₂, o, XS.dup X.here hc.1 rfl (hb hc.2.2.1 hd) rfl rfl st, r'⟩
    · cases hev
  case pop =>
    simp only [ev1] at hev
    split at hev
    · cases hev
      intro x' hx T locs rl X W O N f L
      obtain ⟨s₂, o, st, r'⟩ := k x' hx T locs rl X W O N f L
      exact ⟨s₂, o, XT.pop X.here hc.1 rfl (hb hc.2.2.1 hd) rfl rfl st, r'⟩
    · cases hev
  case goto off =>
    simp only [ev1] at hev
    cases hev
    · intro x' hx T locs rl X W O N f L
      obtain ⟨s₂, o, st, r'⟩ := k x' hx T locs rl X W O N f L
      exact ⟨s₂, o, XS.goto X.here hc.1 rfl (pc0 := pc) rfl (hb hc.2.2.1 hd) (of_decide_eq_true hj) rfl st, r'⟩
  case getfield i =>
    simp only [ev1] at hev
    split at hev
    · split at hev
      · rename_i q hq
        split at hev
        · rename_i j hj'
          split at hev
          · rename_i n d cd hfs
            cases hev
            obtain ⟨n', d', cd', h1, h2⟩ := hT.1 _ (lkp_mem hj')
            rw [hfs] at h1; cases h1
            exact am_getf hc hq hfs h2 hd k
          · cases hev
        · cases hev
      · cases hev
    · cases hev
  case putfield i =>
    simp only [ev1] at hev
    split at hev
    · split at hev
      · rename_i q hq
        split at hev
        · rename_i j hj'
          split at hev
          · rename_i n d hfs
            cases hev
            obtain ⟨n', d', cd', h1, h2, h3⟩ := hT.2.1 _ (lkp_mem hj')
            rw [hfs] at h1; cases h1
            exact am_putf hc hF wi hq hfs h2 h3 hd (Or.inl ⟨rfl, _, rfl⟩) (by simp [fv, gi_si]) rfl (si_off _ _ _ _) (fun j' ne => ⟨by rw [gi_si, if_neg (fun z => ne z.2)], rfl⟩) k
          · cases hev
        · cases hev
      · cases hev
    · split at hev
      · rename_i q hq
        split at hev
        · rename_i j hj'
          split at hev
          · rename_i n d hfs
            cases hev
            obtain ⟨n', d', cd', h1, h2, h3⟩ := hT.2.1 _ (lkp_mem hj')
            rw [hfs] at h1; cases h1
            exact am_putf hc hF wi hq hfs h2 h3 hd (Or.inr ⟨rfl, _, rfl⟩) (by simp [fv, gj_sj]) rfl (sj_off _ _ _ _) (fun j' ne => ⟨rfl, by rw [gj_sj, if_neg (fun z => ne z.2)]⟩) k
          · cases hev
        · cases hev
      · cases hev
    · cases hev
  all_goals (simp [ev1] at hev)
def evB (w : Nat → Option CD) (fs : FS) (fl pfl : List (Nat × Nat)) (kI : List (Nat × Int32)) (kJ : List (Nat × Int64)) : List Instr → List Slot → List Value → Sg → Option (List Slot × List Value × Sg)
  | [], Ls, St, σ => some (Ls, St, σ)
  | i :: is, Ls, St, σ => match ev1 w fs fl pfl kI kJ i Ls St σ with
    | some (Ls', St', σ') => evB w fs fl pfl kI kJ is Ls' St' σ'
    | none => none
def decB (code : ByteArray) : Nat → List Instr → Nat → Bool
  | pc, [], pc' => pc == pc'
  | pc, i :: is, pc' => decide (decode code pc = .ok (i, ilen i)) && jok pc i && decB code (npc pc i) is pc'
theorem am_blk {pc' : Nat} (is : List Instr) (hd : decB bytes pc is pc' = true) (hc : Cx p s m meth c Z own bytes maxL ret mn) (hT : Tab Z a0 C own mn fs fl pfl kI kJ) (hF : FsOk Z a0 C fs) (wi : (Cond.instantiable C kk).before a0 Z = true) (hev : evB w fs fl pfl kI kJ is Ls St σ = some (Ls', St', σ'))
    (k : OkR p l e R s m args below meth c Z C fs n0 h0 F A w cells slots pc' Ls' St' σ' t) : OkR p l e R s m args below meth c Z C fs n0 h0 F A w cells slots pc Ls St σ t := by
  induction is generalizing pc Ls St σ with
  | nil =>
    unfold evB at hev; cases hev
    unfold decB at hd
    have := eq_of_beq hd; subst this
    exact k
  | cons i is ih =>
    unfold evB at hev
    unfold decB at hd
    simp only [Bool.and_eq_true] at hd
    split at hev
    · rename_i L1 S1 σ1 h1
      exact ev1_ok hc hT hF wi (of_decide_eq_true hd.1.1) hd.1.2 h1 (ih hd.2 hev)
    · cases hev

def brk (code : ByteArray) (pc : Nat) (i : Instr) (o : Int) (pc1 : Nat) : Bool := decide (decode code pc = .ok (i, 3)) && decide (0 ≤ (pc : Int) + o) && decide (((pc : Int) + o).toNat = pc1)
theorem brk_spec {code : ByteArray} {pc : Nat} {i : Instr} {o : Int} {pc1 : Nat} (h : brk code pc i o pc1 = true) : decode code pc = .ok (i, 3) ∧ 0 ≤ (pc : Int) + o ∧ ((pc : Int) + o).toNat = pc1 := by
  simp only [brk, Bool.and_eq_true, decide_eq_true_eq] at h; exact ⟨h.1.1, h.1.2, h.2⟩
theorem am_icmpT {cd : ClassFile.Cond} {o : Int} {x y : Int32} {P : Prop} [Decidable P] {pc1 : Nat} {t1 t2 : Option α} (hY : P → if_icmp.holds cd x y = true) (hN : ¬ P → if_icmp.holds cd x y = false) (hd : brk bytes pc (.if_icmp cd o) o pc1 = true) (hc : Cx p s m meth c Z own bytes maxL ret mn)
    (k1 : P → OkR p l e R s m args below meth c Z C fs n0 h0 F A w cells slots pc1 Ls St σ t1) (k2 : ¬ P → OkR p l e R s m args below meth c Z C fs n0 h0 F A w cells slots (pc + 3) Ls St σ t2) : OkR p l e R s m args below meth c Z C fs n0 h0 F A w cells slots pc Ls (.int y :: .int x :: St) σ (if P then t1 else t2) := by
  obtain ⟨d1, d2, d3⟩ := brk_spec hd
  by_cases q : P
  · rw [if_pos q]
    intro x' hx T locs rl X W O N f L
    obtain ⟨s₂, o', st, r⟩ := k1 q x' hx T locs rl X W O N f L
    exact ⟨s₂, o', XS.icmpYes X.here hc.1 rfl (pc0 := pc) rfl (hb hc.2.2.1 d1) rfl (hY q) d2 d3 st, r⟩
  · rw [if_neg q]
    intro x' hx T locs rl X W O N f L
    obtain ⟨s₂, o', st, r⟩ := k2 q x' hx T locs rl X W O N f L
    exact ⟨s₂, o', XS.icmpNo X.here hc.1 rfl (hb hc.2.2.1 d1) rfl (hN q) st, r⟩
theorem am_icmpF {cd : ClassFile.Cond} {o : Int} {x y : Int32} {P : Prop} [Decidable P] {pc1 : Nat} {t1 t2 : Option α} (hY : ¬ P → if_icmp.holds cd x y = true) (hN : P → if_icmp.holds cd x y = false) (hd : brk bytes pc (.if_icmp cd o) o pc1 = true) (hc : Cx p s m meth c Z own bytes maxL ret mn)
    (k1 : P → OkR p l e R s m args below meth c Z C fs n0 h0 F A w cells slots (pc + 3) Ls St σ t1) (k2 : ¬ P → OkR p l e R s m args below meth c Z C fs n0 h0 F A w cells slots pc1 Ls St σ t2) : OkR p l e R s m args below meth c Z C fs n0 h0 F A w cells slots pc Ls (.int y :: .int x :: St) σ (if P then t1 else t2) := by
  obtain ⟨d1, d2, d3⟩ := brk_spec hd
  by_cases q : P
  · rw [if_pos q]
    intro x' hx T locs rl X W O N f L
    obtain ⟨s₂, o', st, r⟩ := k1 q x' hx T locs rl X W O N f L
    exact ⟨s₂, o', XS.icmpNo X.here hc.1 rfl (hb hc.2.2.1 d1) rfl (hN q) st, r⟩
  · rw [if_neg q]
    intro x' hx T locs rl X W O N f L
    obtain ⟨s₂, o', st, r⟩ := k2 q x' hx T locs rl X W O N f L
    exact ⟨s₂, o', XS.icmpYes X.here hc.1 rfl (pc0 := pc) rfl (hb hc.2.2.1 d1) rfl (hY q) d2 d3 st, r⟩
theorem am_ifT {cd : ClassFile.Cond} {o : Int} {x : Int32} {P : Prop} [Decidable P] {pc1 : Nat} {t1 t2 : Option α} (hY : P → ifCond.holds cd x = true) (hN : ¬ P → ifCond.holds cd x = false) (hd : brk bytes pc (.ifCond cd o) o pc1 = true) (hc : Cx p s m meth c Z own bytes maxL ret mn)
    (k1 : P → OkR p l e R s m args below meth c Z C fs n0 h0 F A w cells slots pc1 Ls St σ t1) (k2 : ¬ P → OkR p l e R s m args below meth c Z C fs n0 h0 F A w cells slots (pc + 3) Ls St σ t2) : OkR p l e R s m args below meth c Z C fs n0 h0 F A w cells slots pc Ls (.int x :: St) σ (if P then t1 else t2) := by
  obtain ⟨d1, d2, d3⟩ := brk_spec hd
  by_cases q : P
  · rw [if_pos q]
    intro x' hx T locs rl X W O N f L
    obtain ⟨s₂, o', st, r⟩ := k1 q x' hx T locs rl X W O N f L
    exact ⟨s₂, o', XS.ifYes X.here hc.1 rfl (pc0 := pc) rfl (hb hc.2.2.1 d1) rfl (hY q) d2 d3 st, r⟩
  · rw [if_neg q]
    intro x' hx T locs rl X W O N f L
    obtain ⟨s₂, o', st, r⟩ := k2 q x' hx T locs rl X W O N f L
    exact ⟨s₂, o', XS.ifNo X.here hc.1 rfl (hb hc.2.2.1 d1) rfl (hN q) st, r⟩
theorem am_ifF {cd : ClassFile.Cond} {o : Int} {x : Int32} {P : Prop} [Decidable P] {pc1 : Nat} {t1 t2 : Option α} (hY : ¬ P → ifCond.holds cd x = true) (hN : P → ifCond.holds cd x = false) (hd : brk bytes pc (.ifCond cd o) o pc1 = true) (hc : Cx p s m meth c Z own bytes maxL ret mn)
    (k1 : P → OkR p l e R s m args below meth c Z C fs n0 h0 F A w cells slots (pc + 3) Ls St σ t1) (k2 : ¬ P → OkR p l e R s m args below meth c Z C fs n0 h0 F A w cells slots pc1 Ls St σ t2) : OkR p l e R s m args below meth c Z C fs n0 h0 F A w cells slots pc Ls (.int x :: St) σ (if P then t1 else t2) := by
  obtain ⟨d1, d2, d3⟩ := brk_spec hd
  by_cases q : P
  · rw [if_pos q]
    intro x' hx T locs rl X W O N f L
    obtain ⟨s₂, o', st, r⟩ := k1 q x' hx T locs rl X W O N f L
    exact ⟨s₂, o', XS.ifNo X.here hc.1 rfl (hb hc.2.2.1 d1) rfl (hN q) st, r⟩
  · rw [if_neg q]
    intro x' hx T locs rl X W O N f L
    obtain ⟨s₂, o', st, r⟩ := k2 q x' hx T locs rl X W O N f L
    exact ⟨s₂, o', XS.ifYes X.here hc.1 rfl (pc0 := pc) rfl (hb hc.2.2.1 d1) rfl (hY q) d2 d3 st, r⟩
theorem am_icmp_lt {o : Int} {x y : Int32} {pc1 : Nat} {t1 t2 : Option α} (hd : brk bytes pc (.if_icmp .lt o) o pc1 = true) (hc : Cx p s m meth c Z own bytes maxL ret mn)
    (k1 : x < y → OkR p l e R s m args below meth c Z C fs n0 h0 F A w cells slots pc1 Ls St σ t1) (k2 : ¬ x < y → OkR p l e R s m args below meth c Z C fs n0 h0 F A w cells slots (pc + 3) Ls St σ t2) : OkR p l e R s m args below meth c Z C fs n0 h0 F A w cells slots pc Ls (.int y :: .int x :: St) σ (if x < y then t1 else t2) :=
  am_icmpT (fun h => (tlt h).1) (fun h => (flt h).1) hd hc k1 k2
theorem am_if_lt {o : Int} {x : Int32} {pc1 : Nat} {t1 t2 : Option α} (hd : brk bytes pc (.ifCond .lt o) o pc1 = true) (hc : Cx p s m meth c Z own bytes maxL ret mn)
    (k1 : x < 0 → OkR p l e R s m args below meth c Z C fs n0 h0 F A w cells slots pc1 Ls St σ t1) (k2 : ¬ x < 0 → OkR p l e R s m args below meth c Z C fs n0 h0 F A w cells slots (pc + 3) Ls St σ t2) : OkR p l e R s m args below meth c Z C fs n0 h0 F A w cells slots pc Ls (.int x :: St) σ (if x < 0 then t1 else t2) :=
  am_ifT (fun h => (if0 _ _).trans (tlt h).1) (fun h => (if0 _ _).trans (flt h).1) hd hc k1 k2
theorem am_icmp_ge {o : Int} {x y : Int32} {pc1 : Nat} {t1 t2 : Option α} (hd : brk bytes pc (.if_icmp .ge o) o pc1 = true) (hc : Cx p s m meth c Z own bytes maxL ret mn)
    (k1 : x < y → OkR p l e R s m args below meth c Z C fs n0 h0 F A w cells slots (pc + 3) Ls St σ t1) (k2 : ¬ x < y → OkR p l e R s m args below meth c Z C fs n0 h0 F A w cells slots pc1 Ls St σ t2) : OkR p l e R s m args below meth c Z C fs n0 h0 F A w cells slots pc Ls (.int y :: .int x :: St) σ (if x < y then t1 else t2) :=
  am_icmpF (fun h => (flt h).2.1) (fun h => (tlt h).2.1) hd hc k1 k2
theorem am_if_ge {o : Int} {x : Int32} {pc1 : Nat} {t1 t2 : Option α} (hd : brk bytes pc (.ifCond .ge o) o pc1 = true) (hc : Cx p s m meth c Z own bytes maxL ret mn)
    (k1 : x < 0 → OkR p l e R s m args below meth c Z C fs n0 h0 F A w cells slots (pc + 3) Ls St σ t1) (k2 : ¬ x < 0 → OkR p l e R s m args below meth c Z C fs n0 h0 F A w cells slots pc1 Ls St σ t2) : OkR p l e R s m args below meth c Z C fs n0 h0 F A w cells slots pc Ls (.int x :: St) σ (if x < 0 then t1 else t2) :=
  am_ifF (fun h => (if0 _ _).trans (flt h).2.1) (fun h => (if0 _ _).trans (tlt h).2.1) hd hc k1 k2
theorem am_icmp_gt {o : Int} {x y : Int32} {pc1 : Nat} {t1 t2 : Option α} (hd : brk bytes pc (.if_icmp .gt o) o pc1 = true) (hc : Cx p s m meth c Z own bytes maxL ret mn)
    (k1 : y < x → OkR p l e R s m args below meth c Z C fs n0 h0 F A w cells slots pc1 Ls St σ t1) (k2 : ¬ y < x → OkR p l e R s m args below meth c Z C fs n0 h0 F A w cells slots (pc + 3) Ls St σ t2) : OkR p l e R s m args below meth c Z C fs n0 h0 F A w cells slots pc Ls (.int y :: .int x :: St) σ (if y < x then t1 else t2) :=
  am_icmpT (fun h => (tlt h).2.2.1) (fun h => (flt h).2.2.1) hd hc k1 k2
theorem am_if_gt {o : Int} {x : Int32} {pc1 : Nat} {t1 t2 : Option α} (hd : brk bytes pc (.ifCond .gt o) o pc1 = true) (hc : Cx p s m meth c Z own bytes maxL ret mn)
    (k1 : 0 < x → OkR p l e R s m args below meth c Z C fs n0 h0 F A w cells slots pc1 Ls St σ t1) (k2 : ¬ 0 < x → OkR p l e R s m args below meth c Z C fs n0 h0 F A w cells slots (pc + 3) Ls St σ t2) : OkR p l e R s m args below meth c Z C fs n0 h0 F A w cells slots pc Ls (.int x :: St) σ (if 0 < x then t1 else t2) :=
  am_ifT (fun h => (if0 _ _).trans (tlt h).2.2.1) (fun h => (if0 _ _).trans (flt h).2.2.1) hd hc k1 k2
theorem am_icmp_le {o : Int} {x y : Int32} {pc1 : Nat} {t1 t2 : Option α} (hd : brk bytes pc (.if_icmp .le o) o pc1 = true) (hc : Cx p s m meth c Z own bytes maxL ret mn)
    (k1 : y < x → OkR p l e R s m args below meth c Z C fs n0 h0 F A w cells slots (pc + 3) Ls St σ t1) (k2 : ¬ y < x → OkR p l e R s m args below meth c Z C fs n0 h0 F A w cells slots pc1 Ls St σ t2) : OkR p l e R s m args below meth c Z C fs n0 h0 F A w cells slots pc Ls (.int y :: .int x :: St) σ (if y < x then t1 else t2) :=
  am_icmpF (fun h => (flt h).2.2.2) (fun h => (tlt h).2.2.2) hd hc k1 k2
theorem am_if_le {o : Int} {x : Int32} {pc1 : Nat} {t1 t2 : Option α} (hd : brk bytes pc (.ifCond .le o) o pc1 = true) (hc : Cx p s m meth c Z own bytes maxL ret mn)
    (k1 : 0 < x → OkR p l e R s m args below meth c Z C fs n0 h0 F A w cells slots (pc + 3) Ls St σ t1) (k2 : ¬ 0 < x → OkR p l e R s m args below meth c Z C fs n0 h0 F A w cells slots pc1 Ls St σ t2) : OkR p l e R s m args below meth c Z C fs n0 h0 F A w cells slots pc Ls (.int x :: St) σ (if 0 < x then t1 else t2) :=
  am_ifF (fun h => (if0 _ _).trans (flt h).2.2.2) (fun h => (if0 _ _).trans (tlt h).2.2.2) hd hc k1 k2
theorem am_icmp_eq {o : Int} {x y : Int32} {pc1 : Nat} {t1 t2 : Option α} (hd : brk bytes pc (.if_icmp .eq o) o pc1 = true) (hc : Cx p s m meth c Z own bytes maxL ret mn)
    (k1 : x = y → OkR p l e R s m args below meth c Z C fs n0 h0 F A w cells slots pc1 Ls St σ t1) (k2 : ¬ x = y → OkR p l e R s m args below meth c Z C fs n0 h0 F A w cells slots (pc + 3) Ls St σ t2) : OkR p l e R s m args below meth c Z C fs n0 h0 F A w cells slots pc Ls (.int y :: .int x :: St) σ (if x = y then t1 else t2) :=
  am_icmpT (fun h => (teq h).1) (fun h => (feq h).1) hd hc k1 k2
theorem am_if_eq {o : Int} {x : Int32} {pc1 : Nat} {t1 t2 : Option α} (hd : brk bytes pc (.ifCond .eq o) o pc1 = true) (hc : Cx p s m meth c Z own bytes maxL ret mn)
    (k1 : x = 0 → OkR p l e R s m args below meth c Z C fs n0 h0 F A w cells slots pc1 Ls St σ t1) (k2 : ¬ x = 0 → OkR p l e R s m args below meth c Z C fs n0 h0 F A w cells slots (pc + 3) Ls St σ t2) : OkR p l e R s m args below meth c Z C fs n0 h0 F A w cells slots pc Ls (.int x :: St) σ (if x = 0 then t1 else t2) :=
  am_ifT (fun h => (if0 _ _).trans (teq h).1) (fun h => (if0 _ _).trans (feq h).1) hd hc k1 k2
theorem am_icmp_ne {o : Int} {x y : Int32} {pc1 : Nat} {t1 t2 : Option α} (hd : brk bytes pc (.if_icmp .ne o) o pc1 = true) (hc : Cx p s m meth c Z own bytes maxL ret mn)
    (k1 : x = y → OkR p l e R s m args below meth c Z C fs n0 h0 F A w cells slots (pc + 3) Ls St σ t1) (k2 : ¬ x = y → OkR p l e R s m args below meth c Z C fs n0 h0 F A w cells slots pc1 Ls St σ t2) : OkR p l e R s m args below meth c Z C fs n0 h0 F A w cells slots pc Ls (.int y :: .int x :: St) σ (if x = y then t1 else t2) :=
  am_icmpF (fun h => (feq h).2) (fun h => (teq h).2) hd hc k1 k2
theorem am_if_ne {o : Int} {x : Int32} {pc1 : Nat} {t1 t2 : Option α} (hd : brk bytes pc (.ifCond .ne o) o pc1 = true) (hc : Cx p s m meth c Z own bytes maxL ret mn)
    (k1 : x = 0 → OkR p l e R s m args below meth c Z C fs n0 h0 F A w cells slots (pc + 3) Ls St σ t1) (k2 : ¬ x = 0 → OkR p l e R s m args below meth c Z C fs n0 h0 F A w cells slots pc1 Ls St σ t2) : OkR p l e R s m args below meth c Z C fs n0 h0 F A w cells slots pc Ls (.int x :: St) σ (if x = 0 then t1 else t2) :=
  am_ifF (fun h => (if0 _ _).trans (feq h).2) (fun h => (if0 _ _).trans (teq h).2) hd hc k1 k2

def inb (i : Int32) (n : Nat) : Bool := decide (0 ≤ i.toInt ∧ i.toInt < (n : Int))
theorem inb_iff {i : Int32} {n : Nat} : inb i n = true ↔ 0 ≤ i.toInt ∧ i.toInt < (n : Int) := by simp [inb]
theorem inb_of' {i : Int32} {n : Nat} (h : inb i n = true) : nx i < n ∧ i.toNatClampNeg = nx i ∧ ∀ c : Cell, c.slots.size = n → ¬ (i < 0 ∨ c.slots.size ≤ i.toNatClampNeg) := by
  obtain ⟨h1, h2⟩ := inb_iff.mp h
  have e : i.toNatClampNeg = nx i := rfl
  refine ⟨by unfold nx; omega, e, fun c hc => ?_⟩
  rw [hc, e]
  intro q
  rcases q with q | q
  · rw [Int32.lt_iff_toInt_lt] at q
    have : (0 : Int32).toInt = 0 := rfl
    omega
  · unfold nx at q; omega
theorem am_iaload {k n : Nat} {i : Int32} (hd : decode bytes pc = .ok (.iaload, 1)) (hc : Cx p s m meth c Z own bytes maxL ret mn) (hk : w k = some (.inr (.int, n, none)))
    (κ : inb i n = true → OkR p l e R s m args below meth c Z C fs n0 h0 F A w cells slots (pc + 1) Ls (.int (gi σ k (nx i)) :: St) σ t) : OkR p l e R s m args below meth c Z C fs n0 h0 F A w cells slots pc Ls (.int i :: .ref k :: St) σ (if inb i n = true then t else none) := by
  by_cases q : inb i n = true
  · rw [if_pos q]
    intro x hx T locs rl X W O N f L
    obtain ⟨q1, q2, q3⟩ := inb_of' q
    obtain ⟨cl, a1, a2, a3⟩ := W.1 k _ hk
    have hv : cl.slots[i.toNatClampNeg]? = some (.int (gi σ k (nx i))) := by rw [q2]; exact a3 _ q1
    obtain ⟨s₂, o', st, r⟩ := κ q x hx T locs rl X W O N f L
    exact ⟨s₂, o', X.iaload hc.1 a1.1 (State.isArrayOf_alike hc.2.1.alike a1.2.1) a1.2.2 (q3 cl a2) hv (g := mkF m pc rl.toArray (.int i :: .ref (A k) :: St.map (cv A))) rfl rfl (hb hc.2.2.1 hd) _ st, r⟩
  · rw [if_neg q]; exact am_none rfl
theorem am_iaload_k {k n : Nat} {i : Int32} (q : inb i n = true) (hd : decode bytes pc = .ok (.iaload, 1)) (hc : Cx p s m meth c Z own bytes maxL ret mn) (hk : w k = some (.inr (.int, n, none)))
    (κ : OkR p l e R s m args below meth c Z C fs n0 h0 F A w cells slots (pc + 1) Ls (.int (gi σ k (nx i)) :: St) σ t) : OkR p l e R s m args below meth c Z C fs n0 h0 F A w cells slots pc Ls (.int i :: .ref k :: St) σ t := by
  have := am_iaload hd hc hk fun _ => κ
  rw [if_pos q] at this; exact this
theorem am_ialoadC {k n : Nat} {i : Int32} {f0 : Nat → Int32} (hd : decode bytes pc = .ok (.iaload, 1)) (hc : Cx p s m meth c Z own bytes maxL ret mn) (hk : w k = some (.inr (.int, n, some f0)))
    (κ : inb i n = true → OkR p l e R s m args below meth c Z C fs n0 h0 F A w cells slots (pc + 1) Ls (.int (f0 (nx i)) :: St) σ t) : OkR p l e R s m args below meth c Z C fs n0 h0 F A w cells slots pc Ls (.int i :: .ref k :: St) σ (if inb i n = true then t else none) := by
  by_cases q : inb i n = true
  · rw [if_pos q]
    intro x hx T locs rl X W O N f L
    obtain ⟨q1, q2, q3⟩ := inb_of' q
    obtain ⟨cl, a1, a2, a3⟩ := W.1 k _ hk
    have hv : cl.slots[i.toNatClampNeg]? = some (.int (f0 (nx i))) := by rw [q2]; exact a3 _ q1
    obtain ⟨s₂, o', st, r⟩ := κ q x hx T locs rl X W O N f L
    exact ⟨s₂, o', X.iaload hc.1 a1.1 (State.isArrayOf_alike hc.2.1.alike a1.2.1) a1.2.2 (q3 cl a2) hv (g := mkF m pc rl.toArray (.int i :: .ref (A k) :: St.map (cv A))) rfl rfl (hb hc.2.2.1 hd) _ st, r⟩
  · rw [if_neg q]; exact am_none rfl
theorem am_ialoadC_k {k n : Nat} {i : Int32} {f0 : Nat → Int32} (q : inb i n = true) (hd : decode bytes pc = .ok (.iaload, 1)) (hc : Cx p s m meth c Z own bytes maxL ret mn) (hk : w k = some (.inr (.int, n, some f0)))
    (κ : OkR p l e R s m args below meth c Z C fs n0 h0 F A w cells slots (pc + 1) Ls (.int (f0 (nx i)) :: St) σ t) : OkR p l e R s m args below meth c Z C fs n0 h0 F A w cells slots pc Ls (.int i :: .ref k :: St) σ t := by
  have := am_ialoadC hd hc hk fun _ => κ
  rw [if_pos q] at this; exact this
theorem am_laload {k n : Nat} {i : Int32} (hd : decode bytes pc = .ok (.laload, 1)) (hc : Cx p s m meth c Z own bytes maxL ret mn) (hk : w k = some (.inr (.long, n, none)))
    (κ : inb i n = true → OkR p l e R s m args below meth c Z C fs n0 h0 F A w cells slots (pc + 1) Ls (.long (gj σ k (nx i)) :: St) σ t) : OkR p l e R s m args below meth c Z C fs n0 h0 F A w cells slots pc Ls (.int i :: .ref k :: St) σ (if inb i n = true then t else none) := by
  by_cases q : inb i n = true
  · rw [if_pos q]
    intro x hx T locs rl X W O N f L
    obtain ⟨q1, q2, q3⟩ := inb_of' q
    obtain ⟨cl, a1, a2, a3⟩ := W.1 k _ hk
    have hv : cl.slots[i.toNatClampNeg]? = some (.long (gj σ k (nx i))) := by rw [q2]; exact a3 _ q1
    obtain ⟨s₂, o', st, r⟩ := κ q x hx T locs rl X W O N f L
    exact ⟨s₂, o', X.laload hc.1 a1.1 (State.isArrayOf_alike hc.2.1.alike a1.2.1) a1.2.2 (q3 cl a2) hv (g := mkF m pc rl.toArray (.int i :: .ref (A k) :: St.map (cv A))) rfl rfl (hb hc.2.2.1 hd) _ st, r⟩
  · rw [if_neg q]; exact am_none rfl
theorem am_laload_k {k n : Nat} {i : Int32} (q : inb i n = true) (hd : decode bytes pc = .ok (.laload, 1)) (hc : Cx p s m meth c Z own bytes maxL ret mn) (hk : w k = some (.inr (.long, n, none)))
    (κ : OkR p l e R s m args below meth c Z C fs n0 h0 F A w cells slots (pc + 1) Ls (.long (gj σ k (nx i)) :: St) σ t) : OkR p l e R s m args below meth c Z C fs n0 h0 F A w cells slots pc Ls (.int i :: .ref k :: St) σ t := by
  have := am_laload hd hc hk fun _ => κ
  rw [if_pos q] at this; exact this
theorem am_baloadB {k n : Nat} {i : Int32} (hd : decode bytes pc = .ok (.baload, 1)) (hc : Cx p s m meth c Z own bytes maxL ret mn) (hk : w k = some (.inr (.byte, n, none)))
    (κ : inb i n = true → OkR p l e R s m args below meth c Z C fs n0 h0 F A w cells slots (pc + 1) Ls (.int (gi σ k (nx i)) :: St) σ t) : OkR p l e R s m args below meth c Z C fs n0 h0 F A w cells slots pc Ls (.int i :: .ref k :: St) σ (if inb i n = true then t else none) := by
  by_cases q : inb i n = true
  · rw [if_pos q]
    intro x hx T locs rl X W O N f L
    obtain ⟨q1, q2, q3⟩ := inb_of' q
    obtain ⟨cl, a1, a2, a3⟩ := W.1 k _ hk
    have hv : cl.slots[i.toNatClampNeg]? = some (.int (gi σ k (nx i))) := by rw [q2]; exact a3 _ q1
    obtain ⟨s₂, o', st, r⟩ := κ q x hx T locs rl X W O N f L
    exact ⟨s₂, o', X.baloadBytes hc.1 a1.1 (State.isArrayOf_alike hc.2.1.alike a1.2.1) a1.2.2 (q3 cl a2) hv (g := mkF m pc rl.toArray (.int i :: .ref (A k) :: St.map (cv A))) rfl rfl (hb hc.2.2.1 hd) _ st, r⟩
  · rw [if_neg q]; exact am_none rfl
theorem am_baloadB_k {k n : Nat} {i : Int32} (q : inb i n = true) (hd : decode bytes pc = .ok (.baload, 1)) (hc : Cx p s m meth c Z own bytes maxL ret mn) (hk : w k = some (.inr (.byte, n, none)))
    (κ : OkR p l e R s m args below meth c Z C fs n0 h0 F A w cells slots (pc + 1) Ls (.int (gi σ k (nx i)) :: St) σ t) : OkR p l e R s m args below meth c Z C fs n0 h0 F A w cells slots pc Ls (.int i :: .ref k :: St) σ t := by
  have := am_baloadB hd hc hk fun _ => κ
  rw [if_pos q] at this; exact this
theorem am_baloadZ {k n : Nat} {i : Int32} (hd : decode bytes pc = .ok (.baload, 1)) (hc : Cx p s m meth c Z own bytes maxL ret mn) (hk : w k = some (.inr (.boolean, n, none)))
    (κ : inb i n = true → OkR p l e R s m args below meth c Z C fs n0 h0 F A w cells slots (pc + 1) Ls (.int (gi σ k (nx i)) :: St) σ t) : OkR p l e R s m args below meth c Z C fs n0 h0 F A w cells slots pc Ls (.int i :: .ref k :: St) σ (if inb i n = true then t else none) := by
  by_cases q : inb i n = true
  · rw [if_pos q]
    intro x hx T locs rl X W O N f L
    obtain ⟨q1, q2, q3⟩ := inb_of' q
    obtain ⟨cl, a1, a2, a3⟩ := W.1 k _ hk
    have hv : cl.slots[i.toNatClampNeg]? = some (.int (gi σ k (nx i))) := by rw [q2]; exact a3 _ q1
    obtain ⟨s₂, o', st, r⟩ := κ q x hx T locs rl X W O N f L
    exact ⟨s₂, o', X.baloadBooleans hc.1 a1.1 (State.isArrayOf_alike hc.2.1.alike a1.2.1) a1.2.2 (q3 cl a2) hv (g := mkF m pc rl.toArray (.int i :: .ref (A k) :: St.map (cv A))) rfl rfl (hb hc.2.2.1 hd) _ st, r⟩
  · rw [if_neg q]; exact am_none rfl
theorem am_baloadZ_k {k n : Nat} {i : Int32} (q : inb i n = true) (hd : decode bytes pc = .ok (.baload, 1)) (hc : Cx p s m meth c Z own bytes maxL ret mn) (hk : w k = some (.inr (.boolean, n, none)))
    (κ : OkR p l e R s m args below meth c Z C fs n0 h0 F A w cells slots (pc + 1) Ls (.int (gi σ k (nx i)) :: St) σ t) : OkR p l e R s m args below meth c Z C fs n0 h0 F A w cells slots pc Ls (.int i :: .ref k :: St) σ t := by
  have := am_baloadZ hd hc hk fun _ => κ
  rw [if_pos q] at this; exact this
theorem am_iastore {k n : Nat} {i : Int32} {x y : Int32} (hy : x = y) (hd : decode bytes pc = .ok (.iastore, 1)) (hc : Cx p s m meth c Z own bytes maxL ret mn) (hk : w k = some (.inr (.int, n, none)))
    (κ : inb i n = true → OkR p l e R s m args below meth c Z C fs n0 h0 F A w cells slots (pc + 1) Ls St (si σ k (nx i) y) t) : OkR p l e R s m args below meth c Z C fs n0 h0 F A w cells slots pc Ls (.int x :: .int i :: .ref k :: St) σ (if inb i n = true then t else none) := by
  by_cases q : inb i n = true
  · rw [if_pos q]
    intro x' hx T locs rl X W O N f L
    obtain ⟨q1, q2, q3⟩ := inb_of' q
    obtain ⟨cl, a1, a2, a3⟩ := W.1 k _ hk
    obtain ⟨T', h', X', e', Q, st'⟩ := stI X hc.1 hc.2.1 rfl a1 (q3 cl a2) (g := mkF m pc rl.toArray (.int x :: .int i :: .ref (A k) :: St.map (cv A))) rfl rfl (hb hc.2.2.1 hd)
    subst e'
    have W' : Wd Z C fs T'.heap A w (si σ k (nx i) y) := by
      refine W.write hk Q (si_off _ _ _ _) ⟨_, a1.same Q, by rw [sz_set]; exact a2, fun j hj => ?_⟩
      subst hy
      simp only [Cell.setSlot, aeo, ae]
      rw [q2]
      by_cases ej : j = nx i
      · subst ej
        rw [Array.getElem?_setIfInBounds_self_of_lt (by omega)]
        simp [gi_si, gj_sj, nar]
      · rw [Array.getElem?_setIfInBounds_ne (Ne.symm ej)]
        rw [a3 j hj]
        simp [aeo, ae, gi_si, gj_sj, ej]
    obtain ⟨s₂, o', st, r⟩ := κ q x' hx T' _ rl X' W' (O.write hk rfl Q) N (Fr.snoc X' f (N k _ hk rfl)) L
    exact ⟨s₂, o', st' _ st, r⟩
  · rw [if_neg q]; exact am_none rfl
theorem am_iastore_k {k n : Nat} {i : Int32} {x y : Int32} (q : inb i n = true) (hy : x = y) (hd : decode bytes pc = .ok (.iastore, 1)) (hc : Cx p s m meth c Z own bytes maxL ret mn) (hk : w k = some (.inr (.int, n, none)))
    (κ : OkR p l e R s m args below meth c Z C fs n0 h0 F A w cells slots (pc + 1) Ls St (si σ k (nx i) y) t) : OkR p l e R s m args below meth c Z C fs n0 h0 F A w cells slots pc Ls (.int x :: .int i :: .ref k :: St) σ t := by
  have := am_iastore hy hd hc hk fun _ => κ
  rw [if_pos q] at this; exact this
theorem am_lastore {k n : Nat} {i : Int32} {x y : Int64} (hy : x = y) (hd : decode bytes pc = .ok (.lastore, 1)) (hc : Cx p s m meth c Z own bytes maxL ret mn) (hk : w k = some (.inr (.long, n, none)))
    (κ : inb i n = true → OkR p l e R s m args below meth c Z C fs n0 h0 F A w cells slots (pc + 1) Ls St (sj σ k (nx i) y) t) : OkR p l e R s m args below meth c Z C fs n0 h0 F A w cells slots pc Ls (.long x :: .int i :: .ref k :: St) σ (if inb i n = true then t else none) := by
  by_cases q : inb i n = true
  · rw [if_pos q]
    intro x' hx T locs rl X W O N f L
    obtain ⟨q1, q2, q3⟩ := inb_of' q
    obtain ⟨cl, a1, a2, a3⟩ := W.1 k _ hk
    obtain ⟨T', h', X', e', Q, st'⟩ := stJ X hc.1 hc.2.1 rfl a1 (q3 cl a2) (g := mkF m pc rl.toArray (.long x :: .int i :: .ref (A k) :: St.map (cv A))) rfl rfl (hb hc.2.2.1 hd)
    subst e'
    have W' : Wd Z C fs T'.heap A w (sj σ k (nx i) y) := by
      refine W.write hk Q (sj_off _ _ _ _) ⟨_, a1.same Q, by rw [sz_set]; exact a2, fun j hj => ?_⟩
      subst hy
      simp only [Cell.setSlot, aeo, ae]
      rw [q2]
      by_cases ej : j = nx i
      · subst ej
        rw [Array.getElem?_setIfInBounds_self_of_lt (by omega)]
        simp [gi_si, gj_sj, nar]
      · rw [Array.getElem?_setIfInBounds_ne (Ne.symm ej)]
        rw [a3 j hj]
        simp [aeo, ae, gi_si, gj_sj, ej]
    obtain ⟨s₂, o', st, r⟩ := κ q x' hx T' _ rl X' W' (O.write hk rfl Q) N (Fr.snoc X' f (N k _ hk rfl)) L
    exact ⟨s₂, o', st' _ st, r⟩
  · rw [if_neg q]; exact am_none rfl
theorem am_lastore_k {k n : Nat} {i : Int32} {x y : Int64} (q : inb i n = true) (hy : x = y) (hd : decode bytes pc = .ok (.lastore, 1)) (hc : Cx p s m meth c Z own bytes maxL ret mn) (hk : w k = some (.inr (.long, n, none)))
    (κ : OkR p l e R s m args below meth c Z C fs n0 h0 F A w cells slots (pc + 1) Ls St (sj σ k (nx i) y) t) : OkR p l e R s m args below meth c Z C fs n0 h0 F A w cells slots pc Ls (.long x :: .int i :: .ref k :: St) σ t := by
  have := am_lastore hy hd hc hk fun _ => κ
  rw [if_pos q] at this; exact this
theorem am_bastoreB {k n : Nat} {i : Int32} {x y : Int32} (hy : x.toInt8.toInt32 = y) (hd : decode bytes pc = .ok (.bastore, 1)) (hc : Cx p s m meth c Z own bytes maxL ret mn) (hk : w k = some (.inr (.byte, n, none)))
    (κ : inb i n = true → OkR p l e R s m args below meth c Z C fs n0 h0 F A w cells slots (pc + 1) Ls St (si σ k (nx i) y) t) : OkR p l e R s m args below meth c Z C fs n0 h0 F A w cells slots pc Ls (.int x :: .int i :: .ref k :: St) σ (if inb i n = true then t else none) := by
  by_cases q : inb i n = true
  · rw [if_pos q]
    intro x' hx T locs rl X W O N f L
    obtain ⟨q1, q2, q3⟩ := inb_of' q
    obtain ⟨cl, a1, a2, a3⟩ := W.1 k _ hk
    obtain ⟨T', h', X', e', Q, st'⟩ := stB X hc.1 hc.2.1 rfl a1 (q3 cl a2) (g := mkF m pc rl.toArray (.int x :: .int i :: .ref (A k) :: St.map (cv A))) rfl rfl (hb hc.2.2.1 hd)
    subst e'
    have W' : Wd Z C fs T'.heap A w (si σ k (nx i) y) := by
      refine W.write hk Q (si_off _ _ _ _) ⟨_, a1.same Q, by rw [sz_set]; exact a2, fun j hj => ?_⟩
      subst hy
      simp only [Cell.setSlot, aeo, ae]
      rw [q2]
      by_cases ej : j = nx i
      · subst ej
        rw [Array.getElem?_setIfInBounds_self_of_lt (by omega)]
        simp [gi_si, gj_sj, nar]
      · rw [Array.getElem?_setIfInBounds_ne (Ne.symm ej)]
        rw [a3 j hj]
        simp [aeo, ae, gi_si, gj_sj, ej]
    obtain ⟨s₂, o', st, r⟩ := κ q x' hx T' _ rl X' W' (O.write hk rfl Q) N (Fr.snoc X' f (N k _ hk rfl)) L
    exact ⟨s₂, o', st' _ st, r⟩
  · rw [if_neg q]; exact am_none rfl
theorem am_bastoreB_k {k n : Nat} {i : Int32} {x y : Int32} (q : inb i n = true) (hy : x.toInt8.toInt32 = y) (hd : decode bytes pc = .ok (.bastore, 1)) (hc : Cx p s m meth c Z own bytes maxL ret mn) (hk : w k = some (.inr (.byte, n, none)))
    (κ : OkR p l e R s m args below meth c Z C fs n0 h0 F A w cells slots (pc + 1) Ls St (si σ k (nx i) y) t) : OkR p l e R s m args below meth c Z C fs n0 h0 F A w cells slots pc Ls (.int x :: .int i :: .ref k :: St) σ t := by
  have := am_bastoreB hy hd hc hk fun _ => κ
  rw [if_pos q] at this; exact this
theorem am_bastoreZ {k n : Nat} {i : Int32} {x y : Int32} (hy : x &&& 1 = y) (hd : decode bytes pc = .ok (.bastore, 1)) (hc : Cx p s m meth c Z own bytes maxL ret mn) (hk : w k = some (.inr (.boolean, n, none)))
    (κ : inb i n = true → OkR p l e R s m args below meth c Z C fs n0 h0 F A w cells slots (pc + 1) Ls St (si σ k (nx i) y) t) : OkR p l e R s m args below meth c Z C fs n0 h0 F A w cells slots pc Ls (.int x :: .int i :: .ref k :: St) σ (if inb i n = true then t else none) := by
  by_cases q : inb i n = true
  · rw [if_pos q]
    intro x' hx T locs rl X W O N f L
    obtain ⟨q1, q2, q3⟩ := inb_of' q
    obtain ⟨cl, a1, a2, a3⟩ := W.1 k _ hk
    obtain ⟨T', h', X', e', Q, st'⟩ := stZ X hc.1 hc.2.1 rfl a1 (q3 cl a2) (g := mkF m pc rl.toArray (.int x :: .int i :: .ref (A k) :: St.map (cv A))) rfl rfl (hb hc.2.2.1 hd)
    subst e'
    have W' : Wd Z C fs T'.heap A w (si σ k (nx i) y) := by
      refine W.write hk Q (si_off _ _ _ _) ⟨_, a1.same Q, by rw [sz_set]; exact a2, fun j hj => ?_⟩
      subst hy
      simp only [Cell.setSlot, aeo, ae]
      rw [q2]
      by_cases ej : j = nx i
      · subst ej
        rw [Array.getElem?_setIfInBounds_self_of_lt (by omega)]
        simp [gi_si, gj_sj, nar]
      · rw [Array.getElem?_setIfInBounds_ne (Ne.symm ej)]
        rw [a3 j hj]
        simp [aeo, ae, gi_si, gj_sj, ej]
    obtain ⟨s₂, o', st, r⟩ := κ q x' hx T' _ rl X' W' (O.write hk rfl Q) N (Fr.snoc X' f (N k _ hk rfl)) L
    exact ⟨s₂, o', st' _ st, r⟩
  · rw [if_neg q]; exact am_none rfl
theorem am_bastoreZ_k {k n : Nat} {i : Int32} {x y : Int32} (q : inb i n = true) (hy : x &&& 1 = y) (hd : decode bytes pc = .ok (.bastore, 1)) (hc : Cx p s m meth c Z own bytes maxL ret mn) (hk : w k = some (.inr (.boolean, n, none)))
    (κ : OkR p l e R s m args below meth c Z C fs n0 h0 F A w cells slots (pc + 1) Ls St (si σ k (nx i) y) t) : OkR p l e R s m args below meth c Z C fs n0 h0 F A w cells slots pc Ls (.int x :: .int i :: .ref k :: St) σ t := by
  have := am_bastoreZ hy hd hc hk fun _ => κ
  rw [if_pos q] at this; exact this
theorem am_alen {k n : Nat} {ty : FieldType} {o : Option (Nat → Int32)} (hd : decode bytes pc = .ok (.arraylength, 1)) (hc : Cx p s m meth c Z own bytes maxL ret mn) (hk : w k = some (.inr (ty, n, o)))
    (κ : OkR p l e R s m args below meth c Z C fs n0 h0 F A w cells slots (pc + 1) Ls (.int n.toInt32 :: St) σ t) : OkR p l e R s m args below meth c Z C fs n0 h0 F A w cells slots pc Ls (.ref k :: St) σ t := by
  intro x hx T locs rl X W O N f L
  obtain ⟨cl, a1, a2, a3⟩ := W.1 k _ hk
  subst a2
  obtain ⟨s₂, o', st, r⟩ := κ x hx T locs rl X W O N f L
  exact ⟨s₂, o', X.arraylength hc.1 a1.1 (State.isArrayOf_alike hc.2.1.alike a1.2.1) (g := mkF m pc rl.toArray (.ref (A k) :: St.map (cv A))) rfl rfl (hb hc.2.2.1 hd) _ st, r⟩
theorem am_irem {x y : Int32} (hd : decode bytes pc = .ok (.irem, 1)) (hc : Cx p s m meth c Z own bytes maxL ret mn)
    (κ : y ≠ 0 → OkR p l e R s m args below meth c Z C fs n0 h0 F A w cells slots (pc + 1) Ls (.int (x % y) :: St) σ t) : OkR p l e R s m args below meth c Z C fs n0 h0 F A w cells slots pc Ls (.int y :: .int x :: St) σ (if y = 0 then none else t) := by
  by_cases q : y = 0
  · rw [if_pos q]; exact am_none rfl
  · rw [if_neg q]
    intro x' hx T locs rl X W O N f L
    obtain ⟨s₂, o', st, r⟩ := κ q x' hx T locs rl X W O N f L
    exact ⟨s₂, o', iremM X hc.1 rfl (hb hc.2.2.1 hd) rfl q st, r⟩
theorem am_idiv {x y : Int32} (hd : decode bytes pc = .ok (.idiv, 1)) (hc : Cx p s m meth c Z own bytes maxL ret mn)
    (κ : y ≠ 0 → OkR p l e R s m args below meth c Z C fs n0 h0 F A w cells slots (pc + 1) Ls (.int (x / y) :: St) σ t) : OkR p l e R s m args below meth c Z C fs n0 h0 F A w cells slots pc Ls (.int y :: .int x :: St) σ (if y = 0 then none else t) := by
  by_cases q : y = 0
  · rw [if_pos q]; exact am_none rfl
  · rw [if_neg q]
    intro x' hx T locs rl X W O N f L
    obtain ⟨s₂, o', st, r⟩ := κ q x' hx T locs rl X W O N f L
    exact ⟨s₂, o', XS.idiv X.here hc.1 rfl (hb hc.2.2.1 hd) rfl q st, r⟩
theorem am_retI {z : Int32} {a : α} (hd : decode bytes pc = .ok (.ireturn, 1)) (hc : Cx p s m meth c Z own bytes maxL (some .int) mn) (hcs : cells ≤ R.cells) (hsl : slots ≤ R.slots) (hF : ∀ h, Wd Z C fs h A w σ → Out h0 h A w → F a (some (.int z)) h) : OkR p l e R s m args below meth c Z C fs n0 h0 F A w cells slots pc Ls (.int z :: St) σ (some a) := by
  intro x' hx T locs rl X W O N f L
  cases hx
  obtain ⟨fs', hr, hrun, hended, hW, hsame⟩ := X.leave (v := some (.int z)) (fun h => by rw [hc.2.2.2.2.2.1] at h; cases h) hc.2.2.2.2.2.2.1
  exact ⟨_, _, retOut X hc.1 hc.2.2.2.2.2.1 rfl (Or.inl ⟨rfl, Or.inl rfl, z, rfl⟩) (hb hc.2.2.1 hd) hr, hrun, hended, _, locs, rfl, ⟨hF _ W O, f⟩, ⟨_, rfl⟩, hW, hsame.mono hcs hsl⟩
theorem am_retZ {z : Int32} {a : α} (hd : decode bytes pc = .ok (.ireturn, 1)) (hc : Cx p s m meth c Z own bytes maxL (some .boolean) mn) (hcs : cells ≤ R.cells) (hsl : slots ≤ R.slots) (hF : ∀ h, Wd Z C fs h A w σ → Out h0 h A w → F a (some (.int (z &&& 1))) h) : OkR p l e R s m args below meth c Z C fs n0 h0 F A w cells slots pc Ls (.int z :: St) σ (some a) := by
  intro x' hx T locs rl X W O N f L
  cases hx
  obtain ⟨fs', hr, hrun, hended, hW, hsame⟩ := X.leave (v := some (.int (z &&& 1))) (fun h => by rw [hc.2.2.2.2.2.1] at h; cases h) hc.2.2.2.2.2.2.1
  exact ⟨_, _, retN X hc.1 (t := .boolean) hc.2.2.2.2.2.1 (Or.inl rfl) (hb hc.2.2.1 hd) hr, hrun, hended, _, locs, rfl, ⟨hF _ W O, f⟩, ⟨_, rfl⟩, hW, hsame.mono hcs hsl⟩
theorem am_retJ {z : Int64} {a : α} (hd : decode bytes pc = .ok (.lreturn, 1)) (hc : Cx p s m meth c Z own bytes maxL (some .long) mn) (hcs : cells ≤ R.cells) (hsl : slots ≤ R.slots) (hF : ∀ h, Wd Z C fs h A w σ → Out h0 h A w → F a (some (.long z)) h) : OkR p l e R s m args below meth c Z C fs n0 h0 F A w cells slots pc Ls (.long z :: St) σ (some a) := by
  intro x' hx T locs rl X W O N f L
  cases hx
  obtain ⟨fs', hr, hrun, hended, hW, hsame⟩ := X.leave (v := some (.long z)) (fun h => by rw [hc.2.2.2.2.2.1] at h; cases h) hc.2.2.2.2.2.2.1
  exact ⟨_, _, retOut X hc.1 hc.2.2.2.2.2.1 rfl (Or.inr (Or.inl ⟨rfl, rfl, z, rfl⟩)) (hb hc.2.2.1 hd) hr, hrun, hended, _, locs, rfl, ⟨hF _ W O, f⟩, ⟨_, rfl⟩, hW, hsame.mono hcs hsl⟩
theorem am_retV {a : α} (hd : decode bytes pc = .ok (.return_, 1)) (hc : Cx p s m meth c Z own bytes maxL (none) mn) (hcs : cells ≤ R.cells) (hsl : slots ≤ R.slots) (hF : ∀ h, Wd Z C fs h A w σ → Out h0 h A w → F a (none) h) : OkR p l e R s m args below meth c Z C fs n0 h0 F A w cells slots pc Ls [] σ (some a) := by
  intro x' hx T locs rl X W O N f L
  cases hx
  obtain ⟨fs', hr, hrun, hended, hW, hsame⟩ := X.leave (v := none) (fun _ => rfl) hc.2.2.2.2.2.2.1
  exact ⟨_, _, X.returnOut hc.1 hc.2.2.2.2.2.1 (hb hc.2.2.1 hd) hr, hrun, hended, _, locs, rfl, ⟨hF _ W O, f⟩, ⟨_, rfl⟩, hW, hsame.mono hcs hsl⟩

def wkL : List Slot → List Slot → Prop
  | [], [] => True
  | .val v :: l, x :: l' => x = .val v ∧ wkL l l'
  | .unset :: l, _ :: l' => wkL l l'
  | .second :: l, _ :: l' => wkL l l'
  | _, _ => False
theorem wkL_ok : ∀ {l l' : List Slot}, wkL l l' → l.length = l'.length ∧ ∀ (k : Nat) (v : Value), l[k]? = some (.val v) → l'[k]? = some (.val v)
  | [], [], _ => ⟨rfl, fun k v h => by simp at h⟩
  | .val u :: l, x :: l', h => by
    obtain ⟨h1, h2⟩ := h
    obtain ⟨a, b⟩ := wkL_ok h2
    refine ⟨by simp [a], fun k v q => ?_⟩
    cases k with
    | zero => simp at q ⊢; rw [h1, q]
    | succ k => rw [List.getElem?_cons_succ] at q ⊢; exact b k v q
  | .unset :: l, x :: l', h => by
    obtain ⟨a, b⟩ := wkL_ok (show wkL l l' from h)
    refine ⟨by simp [a], fun k v q => ?_⟩
    cases k with
    | zero => simp at q
    | succ k => rw [List.getElem?_cons_succ] at q ⊢; exact b k v q
  | .second :: l, x :: l', h => by
    obtain ⟨a, b⟩ := wkL_ok (show wkL l l' from h)
    refine ⟨by simp [a], fun k v q => ?_⟩
    cases k with
    | zero => simp at q
    | succ k => rw [List.getElem?_cons_succ] at q ⊢; exact b k v q
theorem am_wk (h : wkL Ls' Ls) (κ : OkR p l e R s m args below meth c Z C fs n0 h0 F A w cells slots pc Ls' St σ t) : OkR p l e R s m args below meth c Z C fs n0 h0 F A w cells slots pc Ls St σ t := by
  intro x' hx T locs rl X W O N f L
  obtain ⟨a, b⟩ := wkL_ok h
  exact κ x' hx T locs rl X W O N f ⟨by rw [L.1, a], L.2.1, fun k v q => L.2.2 k v (b k v q)⟩

/-! calls -/
def FM (Z : State) (C : String) (fs : FS) (A : Nat → Addr) (w : Nat → Option CD) (h0 : Heap) (g : α → Option Value × Sg) : α → Option Value → Heap → Prop := fun x v h => v = (g x).1.map (cv A) ∧ Wd Z C fs h A w (g x).2 ∧ Out h0 h A w
def Con (l : Launch) (Z : State) (C : String) (fs : FS) (y : MethodName) (bytes : ByteArray) (maxL : Nat) (ret : Option FieldType) (rm : Room) (w : Nat → Option CD) (as : List Value) (σ : Sg) (v : Option Value) (σ' : Sg) : Prop :=
  ∀ (A : Nat → Addr) (n0 : Nat) (h : Heap) (ws : List Jvm.Cond), Wd Z C fs h A w σ → Nw n0 A w →
    MetFree l y (head1 (Jvm.Cond.code y bytes maxL ret :: ws) rm) (fun a U => a = (as.map (cv A)).toArray ∧ Z.Warmed39 U.vm ∧ U.heap = h) (fun _ _ _ _ _ => True) (fun _ U o U' => ∃ v' L, o = .returned v' ∧ ((v' = v.map (cv A) ∧ Wd Z C fs U'.heap A w σ' ∧ Out h U'.heap A w) ∧ Fr n0 L) ∧ FrameEnd U o U' L rm.cells rm.slots)
theorem am_met {y : MethodName} {rm : Room} {ws : List Jvm.Cond} {as : List Value} {h : Heap} {x : α} (pn : plainName y.cls = true) (ht : t = some x) (W : Wd Z C fs h A w σ) (N : Nw n0 A w)
    (H : ∀ (p : Program) (e : Env) (s : State) (m : MethodId) (below : List Frame) (meth : Method) (c : Code), Cx p s m meth c Z y.cls bytes maxL ret y.name → OkR p l e rm s m (as.map (cv A)).toArray below meth c Z C fs n0 h F A w 0 0 0 (entL as maxL) [] σ t) :
    MetFree l y (head1 (Jvm.Cond.code y bytes maxL ret :: ws) rm) (fun a U => a = (as.map (cv A)).toArray ∧ Z.Warmed39 U.vm ∧ U.heap = h) (fun _ _ _ _ _ => True) (fun _ U o U' => ∃ v L, o = .returned v ∧ (F x v U'.heap ∧ Fr n0 L) ∧ FrameEnd U o U' L rm.cells rm.slots) := by
  refine MetFree.of_bodySF (plainFor_of_name pn) hisR ?_
  intro p e s m args below meth c s₁ Bd hml0 hP hK
  obtain ⟨rfl, hZ, hh⟩ := hP
  have e0 : s₁.heap = h := by rw [← hh, Bd.state]; rfl
  obtain ⟨s₂, o, st, r⟩ := H p e s m below meth c ⟨Bd.exec, hZ, Bd.bytes, findClass_of_methodNamed Bd.named, hml0, Bd.returns, Bd.notSynchronized, (name_of_methodNamed Bd.named Bd.method).1⟩ x ht s₁ [] _ (Stand.of_body Bd) (by rw [e0]; exact W) (by rw [e0]; exact Out.refl _ _ _) N (Fr.nil n0) (entL_ok A as maxL)
  refine ⟨s₂, o, castTop ?_ st, r⟩
  simp only [entryFrame, mkF, List.map_nil, entL_arr]
theorem am_con {y : MethodName} {rm : Room} {as : List Value} {g : α → Option Value × Sg} (pn : plainName y.cls = true)
    (H : ∀ (p : Program) (e : Env) (s : State) (m : MethodId) (below : List Frame) (meth : Method) (c : Code) (A : Nat → Addr) (n0 : Nat) (h : Heap), Cx p s m meth c Z y.cls bytes maxL ret y.name → OkR p l e rm s m (as.map (cv A)).toArray below meth c Z C fs n0 h (FM Z C fs A w h g) A w 0 0 0 (entL as maxL) [] σ t) :
    ∀ x, t = some x → Con l Z C fs y bytes maxL ret rm w as σ (g x).1 (g x).2 :=
  fun x ht A n0 h ws W N => am_met pn ht W N fun p e s m below meth c hc => H p e s m below meth c A n0 h hc
def SubW (wc w : Nat → Option CD) : Prop := (∀ k d, wc k = some d → w k = some d) ∧ ∀ k d, w k = some d → wc k = some d ∨ wrb d = false
theorem SubW.refl (w : Nat → Option CD) : SubW w w := ⟨fun _ _ h => h, fun _ _ h => Or.inl h⟩
theorem SubW.wd {wc : Nat → Option CD} {h : Heap} (S : SubW wc w) (W : Wd Z C fs h A w σ) : Wd Z C fs h A wc σ := ⟨fun k d q => W.1 k d (S.1 k d q), fun k k' d d' q q' => W.2 k k' d d' (S.1 k d q) (S.1 k' d' q')⟩
theorem SubW.back {wc : Nat → Option CD} {h h' : Heap} (S : SubW wc w) (W : Wd Z C fs h A w σ) (W' : Wd Z C fs h' A wc σ') (O : Out h h' A wc) : Wd Z C fs h' A w σ' := by
  refine ⟨fun k d q => ?_, W.2⟩
  rcases S.2 k d q with z | z
  · exact W'.1 k d z
  · rcases d with q' | ⟨ty, n, o⟩
    · cases z
    · cases o with
      | none => cases z
      | some f =>
        obtain ⟨cl, a1, a2, a3⟩ := W.1 k _ q
        have := O.2 (A k) cl a1.1 fun k' d' q1 q2 e => by
          have := W.2 _ _ _ _ (S.1 _ _ q1) q e
          subst this
          have := S.1 _ _ q1
          rw [q] at this; cases this; cases q2
        exact ⟨cl, ⟨this, a1.2⟩, a2, a3⟩
theorem Out.trans' {wc : Nat → Option CD} {h h' : Heap} (S : SubW wc w) (O : Out h0 h A w) (O' : Out h h' A wc) : Out h0 h' A w := ⟨Nat.le_trans O.1 O'.1, fun b c q n => O'.2 b c (O.2 b c q n) fun k d q1 q2 => n k d (S.1 k d q1) q2⟩
def notMH (y : MethodName) : Prop := y.cls ≠ "java/lang/invoke/MethodHandle" ∧ y.cls ≠ "java/lang/invoke/VarHandle"
def LkP (Z : State) (a0 : Array Value) (own : String) (i : Nat) (y : MethodName) (b : ByteArray) (mL : Nat) (rt : Option FieldType) : Prop := (Cond.methodLink own i y).before a0 Z = true ∧ (Cond.instanceMethod y).before a0 Z = true ∧ (Cond.code y b mL rt).before a0 Z = true ∧ (Cond.initialized y.cls).before a0 Z = true ∧ notMH y ∧ (Cond.privateMethod y).before a0 Z = true
def LkV (Z : State) (a0 : Array Value) (own : String) (i : Nat) (y : MethodName) (b : ByteArray) (mL : Nat) (rt : Option FieldType) : Prop := (Cond.methodLink own i y).before a0 Z = true ∧ (Cond.instanceMethod y).before a0 Z = true ∧ (Cond.code y b mL rt).before a0 Z = true ∧ (Cond.initialized y.cls).before a0 Z = true ∧ notMH y ∧ (Cond.declares y).before a0 Z = true ∧ (Cond.selects y.cls y y).before a0 Z = true
def LkS (Z : State) (a0 : Array Value) (own : String) (i : Nat) (y : MethodName) (b : ByteArray) (mL : Nat) (rt : Option FieldType) : Prop := (Cond.methodLink own i y).before a0 Z = true ∧ (Cond.static y).before a0 Z = true ∧ (Cond.code y b mL rt).before a0 Z = true ∧ (Cond.initialized y.cls).before a0 Z = true ∧ notMH y
def arity (d : String) (n : Nat) : Bool := match parseMethodDescriptor d with
  | some sig => sig.parameters.length == n
  | none => true
theorem arity_ok {d : String} {n : Nat} {L : List Value} (h : arity d n = true) (hl : L.length = n) : ∀ sig, parseMethodDescriptor d = some sig → L.length = sig.parameters.length := fun sig q => by
  simp only [arity, q, beq_iff_eq] at h; omega
def catS (l : List Value) : Nat := (l.map fun v => v.category).sum
theorem catS_map (A : Nat → Addr) (l : List Value) : ((l.map (cv A)).map fun v => v.category).sum = catS l := by
  unfold catS; rw [List.map_map]; congr 1; apply List.map_congr_left; intro v _; exact cv_cat A v
theorem am_callP {y : MethodName} {b : ByteArray} {mL i : Nat} {rt : Option FieldType} {rm : Room} {wc : Nat → Option CD} {argsL rest : List Value} {β : Type} {g : β → Option Value × Sg} {u : Option β} {K : β → Option α} {W0 : Nat} {k q : Nat} (hk : wc k = some (.inl q)) (hl : LkP Z a0 own i y b mL rt) (hyc : y.cls = C) (wi : (Cond.instantiable C kk).before a0 Z = true) (hd : decode bytes pc = .ok (.invokevirtual i, 3)) (hc : Cx p s m meth c Z own bytes maxL ret mn) (hS : SubW wc w) (hst : St = argsL.reverse ++ .ref k :: rest) (har : arity y.desc argsL.length = true)
    (hcon : ∀ x, u = some x → Con l Z C fs y b mL rt rm wc (.ref k :: argsL) σ (g x).1 (g x).2) (hm : Ls.length = maxL) (hrm : rm.frames + 1 ≤ R.frames ∧ W0 + (mL + 11) + rm.locals ≤ R.locals ∧ catS rest ≤ W0 ∧ rm.cells = 0 ∧ rm.slots = 0 ∧ cells ≤ R.cells ∧ slots ≤ R.slots)
    (κ : ∀ x, u = some x → OkR p l e R s m args below meth c Z C fs n0 h0 F A w cells slots (pc + 3) Ls ((g x).1.toList ++ rest) (g x).2 (K x)) : OkR p l e R s m args below meth c Z C fs n0 h0 F A w cells slots pc Ls St σ (u.bind K) := by
  subst hst
  intro x' hx T locs rl X W O N f L
  obtain ⟨r1, r2, r3, r4, r5, r6, r7⟩ := hrm
  cases hu : u with
  | none => rw [hu] at hx; cases hx
  | some y0 =>
    rw [hu] at hx
    have hx' : K y0 = some x' := hx
    have Wc := hS.wd W
    have Nc : Nw n0 A wc := fun k d q1 q2 => N k d (hS.1 k d q1) q2
    have hM := hcon y0 hu A n0 T.heap [] Wc Nc
    have hB := backOf (h := T.heap) (Q := fun v h' L => (v = Option.map (cv A) (g y0).1 ∧ Wd Z C fs h' A wc (g y0).2 ∧ Out T.heap h' A wc) ∧ Fr n0 L) (W := W0) (R := R) (p := p) (e := e) (below := below) (s := s) (args := args) (len := 3) hM hc.2.1 hl.2.2.1 hl.2.2.2.1 r1 r2
    have hsz : (mkF m pc rl.toArray (List.map (cv A) (argsL.reverse ++ .ref k :: rest))).locals.size = c.maxLocals := by show rl.toArray.size = _; rw [List.size_toArray, L.1, hm, hc.2.2.2.2.1]
    obtain ⟨cc, kc, i1, i2, -, i4, -⟩ := Cond.instantiable_spec (mv (args := #[]) hc.2.1 wi)
    have hsel := selects_self_of_private (s := s) (args := args) (y := y) (by rw [hyc]; exact i1) i2 (Bool.or_eq_false_iff.mp i4).1 (Cond.privateMethod_at (mvP hc.2.1 hl.2.2.2.2.2 (args := #[]))) (mv hc.2.1 hl.2.1) hl.2.2.2.2.1
    obtain ⟨cl, q1, q2⟩ := (Wc.1 k _ hk).1.cell
    obtain ⟨v, _, ⟨T1, L1, k1, n1⟩, -, X1, ⟨Lc, hQ, l1, c1, s1⟩, st⟩ := X.privateBack hc.1 hc.2.2.2.1 (mv hc.2.1 hl.1) (mv hc.2.1 hl.2.1) hsel (Cond.privateMethod_at (mvP hc.2.1 hl.2.2.2.2.2 (args := #[]))) (mv hc.2.1 hl.2.2.1) hl.2.2.2.2.1 hB (g := mkF m pc rl.toArray (List.map (cv A) (argsL.reverse ++ .ref k :: rest))) rfl hsz (Steps.refl _) (a := A k) q1 q2 (argsL := argsL.map (cv A)) (rest := rest.map (cv A)) (arity_ok har (by simp)) (by simp [cv]) (by show 2 * 0 + _ ≤ W0; rw [catS_map]; omega) (hb hc.2.2.1 hd) (fun _ _ => ⟨by simp [cv], rfl, by dsimp only [Pt.cells]; omega, by dsimp only [Pt.slots]; omega⟩)
    dsimp only [Pt.U, Pt.locs, Pt.cells, Pt.slots] at X1 l1 c1 s1 st hQ
    obtain ⟨⟨v1, W1, O1⟩, N1⟩ := hQ
    rw [r4, Nat.add_zero] at c1
    rw [r5, Nat.add_zero] at s1
    subst l1 c1 s1
    obtain ⟨s₂, o', st2, r⟩ := κ y0 hu x' hx' T1 _ rl X1 (hS.back W W1 O1) (Out.trans' hS O O1) N (Fr.app f N1) L
    have ev : (g y0).1.map (cv A) = v := v1.symm
    have e3 : List.map (cv A) ((g y0).1.toList ++ rest) = v.toList ++ rest.map (cv A) := by rw [List.map_append, ← ev]; cases (g y0).1 <;> rfl
    rw [e3] at st2
    exact ⟨s₂, o', st.trans st2, r⟩
theorem am_callV {y : MethodName} {b : ByteArray} {mL i : Nat} {rt : Option FieldType} {rm : Room} {wc : Nat → Option CD} {argsL rest : List Value} {β : Type} {g : β → Option Value × Sg} {u : Option β} {K : β → Option α} {W0 : Nat} {k q : Nat} (hk : wc k = some (.inl q)) (hl : LkV Z a0 own i y b mL rt) (hyc : y.cls = C) (hd : decode bytes pc = .ok (.invokevirtual i, 3)) (hc : Cx p s m meth c Z own bytes maxL ret mn) (hS : SubW wc w) (hst : St = argsL.reverse ++ .ref k :: rest) (har : arity y.desc argsL.length = true)
    (hcon : ∀ x, u = some x → Con l Z C fs y b mL rt rm wc (.ref k :: argsL) σ (g x).1 (g x).2) (hm : Ls.length = maxL) (hrm : rm.frames + 1 ≤ R.frames ∧ W0 + (mL + 11) + rm.locals ≤ R.locals ∧ catS rest ≤ W0 ∧ rm.cells = 0 ∧ rm.slots = 0 ∧ cells ≤ R.cells ∧ slots ≤ R.slots)
    (κ : ∀ x, u = some x → OkR p l e R s m args below meth c Z C fs n0 h0 F A w cells slots (pc + 3) Ls ((g x).1.toList ++ rest) (g x).2 (K x)) : OkR p l e R s m args below meth c Z C fs n0 h0 F A w cells slots pc Ls St σ (u.bind K) := by
  subst hst
  intro x' hx T locs rl X W O N f L
  obtain ⟨r1, r2, r3, r4, r5, r6, r7⟩ := hrm
  cases hu : u with
  | none => rw [hu] at hx; cases hx
  | some y0 =>
    rw [hu] at hx
    have hx' : K y0 = some x' := hx
    have Wc := hS.wd W
    have Nc : Nw n0 A wc := fun k d q1 q2 => N k d (hS.1 k d q1) q2
    have hM := hcon y0 hu A n0 T.heap [] Wc Nc
    have hB := backOf (h := T.heap) (Q := fun v h' L => (v = Option.map (cv A) (g y0).1 ∧ Wd Z C fs h' A wc (g y0).2 ∧ Out T.heap h' A wc) ∧ Fr n0 L) (W := W0) (R := R) (p := p) (e := e) (below := below) (s := s) (args := args) (len := 3) hM hc.2.1 hl.2.2.1 hl.2.2.2.1 r1 r2
    have hsz : (mkF m pc rl.toArray (List.map (cv A) (argsL.reverse ++ .ref k :: rest))).locals.size = c.maxLocals := by show rl.toArray.size = _; rw [List.size_toArray, L.1, hm, hc.2.2.2.2.1]
    obtain ⟨cB, kB, q1, q2, q3⟩ := isOf (T := T) hc.2.1 rfl (Wc.1 k _ hk).1
    obtain ⟨v, _, ⟨T1, L1, k1, n1⟩, -, X1, ⟨Lc, hQ, l1, c1, s1⟩, st⟩ := X.virtualBack hc.1 (C := y.cls) (y := y) (z := y) hc.2.2.2.1 (mv hc.2.1 hl.1) (mv hc.2.1 hl.2.2.2.2.2.1) (notFace_of_selects (args := #[]) (mv hc.2.1 hl.2.2.2.2.2.2)) (mv hc.2.1 hl.2.2.2.2.2.2) (mv hc.2.1 hl.2.1) hl.2.2.2.2.1 hB (by rw [hyc]; exact q1) q3 (g := mkF m pc rl.toArray (List.map (cv A) (argsL.reverse ++ .ref k :: rest))) rfl hsz (Steps.refl _) (argsL := argsL.map (cv A)) (rest := rest.map (cv A)) (arity_ok har (by simp)) (by simp [cv]) (by show 2 * 0 + _ ≤ W0; rw [catS_map]; omega) (hb hc.2.2.1 hd) (fun _ _ => ⟨by simp [cv], rfl, by dsimp only [Pt.cells]; omega, by dsimp only [Pt.slots]; omega⟩)
    dsimp only [Pt.U, Pt.locs, Pt.cells, Pt.slots] at X1 l1 c1 s1 st hQ
    obtain ⟨⟨v1, W1, O1⟩, N1⟩ := hQ
    rw [r4, Nat.add_zero] at c1
    rw [r5, Nat.add_zero] at s1
    subst l1 c1 s1
    obtain ⟨s₂, o', st2, r⟩ := κ y0 hu x' hx' T1 _ rl X1 (hS.back W W1 O1) (Out.trans' hS O O1) N (Fr.app f N1) L
    have ev : (g y0).1.map (cv A) = v := v1.symm
    have e3 : List.map (cv A) ((g y0).1.toList ++ rest) = v.toList ++ rest.map (cv A) := by rw [List.map_append, ← ev]; cases (g y0).1 <;> rfl
    rw [e3] at st2
    exact ⟨s₂, o', st.trans st2, r⟩
theorem am_callS {y : MethodName} {b : ByteArray} {mL i : Nat} {rt : Option FieldType} {rm : Room} {wc : Nat → Option CD} {argsL rest : List Value} {β : Type} {g : β → Option Value × Sg} {u : Option β} {K : β → Option α} {W0 : Nat} (hl : LkS Z a0 own i y b mL rt) (hd : decode bytes pc = .ok (.invokestatic i, 3)) (hc : Cx p s m meth c Z own bytes maxL ret mn) (hS : SubW wc w) (hst : St = argsL.reverse ++ rest) (har : arity y.desc argsL.length = true)
    (hcon : ∀ x, u = some x → Con l Z C fs y b mL rt rm wc argsL σ (g x).1 (g x).2) (hm : Ls.length = maxL) (hrm : rm.frames + 1 ≤ R.frames ∧ W0 + (mL + 11) + rm.locals ≤ R.locals ∧ catS rest ≤ W0 ∧ rm.cells = 0 ∧ rm.slots = 0 ∧ cells ≤ R.cells ∧ slots ≤ R.slots)
    (κ : ∀ x, u = some x → OkR p l e R s m args below meth c Z C fs n0 h0 F A w cells slots (pc + 3) Ls ((g x).1.toList ++ rest) (g x).2 (K x)) : OkR p l e R s m args below meth c Z C fs n0 h0 F A w cells slots pc Ls St σ (u.bind K) := by
  subst hst
  intro x' hx T locs rl X W O N f L
  obtain ⟨r1, r2, r3, r4, r5, r6, r7⟩ := hrm
  cases hu : u with
  | none => rw [hu] at hx; cases hx
  | some y0 =>
    rw [hu] at hx
    have hx' : K y0 = some x' := hx
    have Wc := hS.wd W
    have Nc : Nw n0 A wc := fun k d q1 q2 => N k d (hS.1 k d q1) q2
    have hM := hcon y0 hu A n0 T.heap [] Wc Nc
    have hB := backOf (h := T.heap) (Q := fun v h' L => (v = Option.map (cv A) (g y0).1 ∧ Wd Z C fs h' A wc (g y0).2 ∧ Out T.heap h' A wc) ∧ Fr n0 L) (W := W0) (R := R) (p := p) (e := e) (below := below) (s := s) (args := args) (len := 3) hM hc.2.1 hl.2.2.1 hl.2.2.2.1 r1 r2
    have hsz : (mkF m pc rl.toArray (List.map (cv A) (argsL.reverse ++ rest))).locals.size = c.maxLocals := by show rl.toArray.size = _; rw [List.size_toArray, L.1, hm, hc.2.2.2.2.1]
    obtain ⟨v, _, ⟨T1, L1, k1, n1⟩, -, X1, ⟨Lc, hQ, l1, c1, s1⟩, st⟩ := Jvm.LawKit.callS X hc.1 (y := y) hc.2.2.2.1 (mv hc.2.1 hl.1) (mv hc.2.1 hl.2.1) (mv hc.2.1 hl.2.2.2.1) (mv hc.2.1 hl.2.2.1) hl.2.2.2.2 hB (g := mkF m pc rl.toArray (List.map (cv A) (argsL.reverse ++ rest))) rfl hsz (argsL := argsL.map (cv A)) (rest := rest.map (cv A)) (arity_ok har (by simp)) (by simp) (by show 2 * 0 + _ ≤ W0; rw [catS_map]; omega) (hb hc.2.2.1 hd) (fun _ _ => ⟨by simp [cv], rfl, by dsimp only [Pt.cells]; omega, by dsimp only [Pt.slots]; omega⟩)
    dsimp only [Pt.U, Pt.locs, Pt.cells, Pt.slots] at X1 l1 c1 s1 st hQ
    obtain ⟨⟨v1, W1, O1⟩, N1⟩ := hQ
    rw [r4, Nat.add_zero] at c1
    rw [r5, Nat.add_zero] at s1
    subst l1 c1 s1
    obtain ⟨s₂, o', st2, r⟩ := κ y0 hu x' hx' T1 _ rl X1 (hS.back W W1 O1) (Out.trans' hS O O1) N (Fr.app f N1) L
    have ev : (g y0).1.map (cv A) = v := v1.symm
    have e3 : List.map (cv A) ((g y0).1.toList ++ rest) = v.toList ++ rest.map (cv A) := by rw [List.map_append, ← ev]; cases (g y0).1 <;> rfl
    rw [e3] at st2
    exact ⟨s₂, o', st _ st2, r⟩

/-! making the object -/
def nrV (ok : Nat → Bool) : Value → Bool
  | .ref k => ok k
  | _ => true
def nrS (ok : Nat → Bool) : Slot → Bool
  | .val v => nrV ok v
  | _ => true
theorem nrV_cv {ok : Nat → Bool} {A' : Nat → Addr} (hA : ∀ k, ok k = true → A' k = A k) {v : Value} (h : nrV ok v = true) : cv A' v = cv A v := by
  cases v <;> first | rfl | (simp only [cv]; rw [hA _ h])
theorem nr_map {ok : Nat → Bool} {A' : Nat → Addr} (hA : ∀ k, ok k = true → A' k = A k) : ∀ {St : List Value}, St.all (nrV ok) = true → St.map (cv A') = St.map (cv A)
  | [], _ => rfl
  | v :: r, h => by
    rw [List.all_cons, Bool.and_eq_true] at h
    rw [List.map_cons, List.map_cons, nrV_cv hA h.1, nr_map hA h.2]
theorem nr_ls {ok : Nat → Bool} {A' : Nat → Addr} {rl : List Slot} (hA : ∀ k, ok k = true → A' k = A k) (h : Ls.all (nrS ok) = true) (L : LsOk A Ls rl) : LsOk A' Ls rl := by
  refine ⟨L.1, L.2.1, fun k v q => ?_⟩
  have := List.all_eq_true.mp h _ (List.mem_of_getElem? q)
  rw [nrV_cv hA this]; exact L.2.2 k v q
def wK (arrs : List (FieldType × Nat)) (a q : Nat) : Nat → Option CD
  | 0 => some (.inl q)
  | k + 1 => if k < a then (arrs[k]?).map fun x => .inr (x.1, x.2, none) else none
def AE (h0 : Heap) (A0 A : Nat → Addr) (a : Nat) : Prop := A 0 = A0 0 ∧ ∀ k, 1 ≤ k → k ≤ a → h0.size ≤ A k
def FI (Z : State) (C : String) (fs : FS) (arrs : List (FieldType × Nat)) (A0 : Nat → Addr) (h0 : Heap) : Sg → Option Value → Heap → Prop := fun σ v h => v = none ∧ ∃ A : Nat → Addr, AE h0 A0 A arrs.length ∧ Wd Z C fs h A (wK arrs arrs.length arrs.length) σ ∧ h0.size ≤ h.size ∧ ∀ (b : Addr) (c : Cell), h0[b]? = some c → b ≠ A0 0 → h[b]? = some c
theorem FI_of {arrs : List (FieldType × Nat)} {A0 : Nat → Addr} (hA : AE h0 A0 A arrs.length) (h : Heap) (W : Wd Z C fs h A (wK arrs arrs.length arrs.length) σ) (O : Out h0 h A (wK arrs arrs.length arrs.length)) : FI Z C fs arrs A0 h0 σ none h := by
  refine ⟨rfl, A, hA, W, O.1, fun b c q ne => O.2 b c q fun k d z1 z2 z3 => ?_⟩
  cases k with
  | zero => exact ne (z3.symm.trans hA.1)
  | succ k =>
    have : k < arrs.length := by simp only [wK] at z1; split at z1 <;> first | assumption | cases z1
    have := hA.2 (k + 1) (by omega) (by omega)
    have := (Array.getElem?_eq_some_iff.mp q).1
    have z3 : @Eq Nat _ _ := z3
    omega
theorem am_objinit {k i W0 : Nat} (hd : decode bytes pc = .ok (.invokespecial i, 3)) (hc : Cx p s m meth c Z own bytes maxL ret mn) (w1 : (Cond.methodLink own i Lib.objectInit).before a0 Z = true) (w2 : (Cond.instanceMethod Lib.objectInit).before a0 Z = true) (w3 : (Cond.code Lib.objectInit ⟨#[0xb1]⟩ 1 none).before a0 Z = true) (hm : Ls.length = maxL) (hR : 1 ≤ R.frames ∧ W0 + 12 ≤ R.locals ∧ catS St ≤ W0)
    (κ : OkR p l e R s m args below meth c Z C fs n0 h0 F A w cells slots (pc + 3) Ls St σ t) : OkR p l e R s m args below meth c Z C fs n0 h0 F A w cells slots pc Ls (.ref k :: St) σ t := by
  intro x' hx T locs rl X W O N f L
  obtain ⟨T', X', e', st⟩ := initO X hc.1 hc.2.1 hc.2.2.2.1 w1 w2 w3 rfl (g := mkF m pc rl.toArray (.ref (A k) :: St.map (cv A))) rfl (by show rl.toArray.size = _; rw [List.size_toArray, L.1, hm, hc.2.2.2.2.1]) rfl (hb hc.2.2.1 hd) hR.1 (W := W0) (by show 2 * 0 + _ ≤ W0; rw [catS_map]; omega) hR.2.1
  obtain ⟨s₂, o', st2, r⟩ := κ x' hx T' locs rl X' (by rw [e']; exact W) (by rw [e']; exact O) N f L
  exact ⟨s₂, o', st _ st2, r⟩
theorem am_newarr {arrs : List (FieldType × Nat)} {A0 : Nat → Addr} {a n : Nat} {aty : ArrayType} {i : Int32} (hd : decode bytes pc = .ok (.newarray aty, 2)) (hc : Cx p s m meth c Z own bytes maxL ret mn) (wa : (Cond.arrayClass (newarray.typeOf aty)).before a0 Z = true) (ha : arrs[a]? = some (newarray.typeOf aty, n)) (hi : i.toInt = (n : Int)) (hdef : defaultValue (newarray.typeOf aty) = ae zs (a + 1) 0 (newarray.typeOf aty)) (hnr : Ls.all (nrS fun k => k != a + 1) = true ∧ St.all (nrV fun k => k != a + 1) = true) (hAE : AE h0 A0 A a) (hn : n0 ≤ h0.size) (hR : n * 8 ≤ 536870912 ∧ cells + 1 ≤ R.cells ∧ slots + n ≤ R.slots)
    (κ : ∀ A' : Nat → Addr, AE h0 A0 A' (a + 1) → OkR p l e R s m args below meth c Z C fs n0 h0 F A' (wK arrs (a + 1) a) (cells + 1) (slots + n) (pc + 2) Ls (.ref (a + 1) :: St) zs t) : OkR p l e R s m args below meth c Z C fs n0 h0 F A (wK arrs a a) cells slots pc Ls (.int i :: St) zs t := by
  intro x' hx T locs rl X W O N f L
  have hnx : i.toNatClampNeg = n := by show i.toInt.toNat = n; omega
  obtain ⟨T', h', cA, X', e', E, Ar, st⟩ := newP X hc.1 hc.2.1 wa rfl (g := mkF m pc rl.toArray (.int i :: St.map (cv A))) rfl (hb hc.2.2.1 hd) rfl (fun q => by rw [Int32.lt_iff_toInt_lt] at q; have : (0 : Int32).toInt = 0 := rfl; omega) (cap := n) (by omega) hR.1 hR.2.1 hR.2.2
  subst e'
  obtain ⟨A', hA'⟩ : ∃ A' : Nat → Addr, A' = fun k => if k = a + 1 then T.heap.size else A k := ⟨_, rfl⟩
  have hA1 : A' (a + 1) = T.heap.size := by rw [hA']; simp
  have hA2 : ∀ k, (k != a + 1) = true → A' k = A k := fun k q => by rw [hA']; simp only []; rw [if_neg (by simpa using q)]
  have hA3 : ∀ k, k ≤ a → A' k = A k := fun k q => hA2 k (by simp; omega)
  have hlt : ∀ k d, wK arrs a a k = some d → A k < T.heap.size := fun k d q => by
    have := W.1 k d q
    rcases d with q' | ⟨ty, n', o⟩
    · exact this.1.lt
    · obtain ⟨cl, a1, -⟩ := this; exact a1.lt
  have hlow : ∀ k d, wK arrs a a k = some d → k ≤ a := fun k d q => by
    cases k with
    | zero => omega
    | succ k => simp only [wK] at q; split at q <;> first | omega | cases q
  have hold : ∀ k d, wK arrs (a + 1) a k = some d → k ≠ a + 1 → wK arrs a a k = some d := fun k d q ne => by
    cases k with
    | zero => exact q
    | succ k =>
      simp only [wK] at q ⊢
      split at q
      · rw [if_pos (by omega)]; exact q
      · cases q
  have W' : Wd Z C fs T'.heap A' (wK arrs (a + 1) a) zs := by
    refine ⟨fun k d q => ?_, fun k k' d d' q q' z => ?_⟩
    · by_cases ek : k = a + 1
      · subst ek
        simp only [wK, Nat.lt_succ_self, if_true, ha, Option.map_some, Option.some.injEq] at q
        subst q
        refine ⟨_, by rw [hA1]; exact Ar, by rw [sz_new]; exact hnx, fun j hj => ?_⟩
        have e1 : aeo zs (a + 1) j (newarray.typeOf aty) none = defaultValue (newarray.typeOf aty) := by rw [hdef]; cases aty <;> rfl
        rw [e1]
        simp [newA, hnx, hj]
      · have hq := hold k d q ek
        have := W.1 k d hq
        have ek' := hA3 k (hlow k d hq)
        rcases d with q' | ⟨ty, n', o⟩
        · refine ⟨by rw [ek']; exact this.1.ext E, fun j n d cd hj => ?_⟩
          have F := this.2 j n d cd hj
          rw [ek']
          have e1 : cv A' (fv zs k j q' cd) = cv A (fv zs k j q' cd) := by
            refine nrV_cv hA2 ?_
            match cd with
            | 0 => rfl
            | 1 => rfl
            | r + 2 =>
              cases k with
              | zero =>
                simp only [wK, Option.some.injEq, Sum.inl.injEq] at hq
                subst hq
                simp only [fv]
                split
                · simp [nrV]; omega
                · rfl
              | succ k => simp only [wK] at hq; split at hq <;> first | cases hq | (rw [Option.map_eq_some_iff] at hq; obtain ⟨_, -, z⟩ := hq; cases z)
          rw [e1]; exact F.ext E
        · obtain ⟨cl, a1, a2, a3⟩ := this
          exact ⟨cl, by rw [ek']; exact a1.ext E, a2, a3⟩
    · by_cases ek : k = a + 1 <;> by_cases ek2 : k' = a + 1
      · omega
      · subst ek
        have := hlt k' d' (hold k' d' q' ek2)
        rw [hA1, hA2 k' (by simpa using ek2)] at z
        have z : @Eq Nat _ _ := z
        have this : @LT.lt Nat _ _ _ := this
        omega
      · subst ek2
        have := hlt k d (hold k d q ek)
        rw [hA1, hA2 k (by simpa using ek)] at z
        have z : @Eq Nat _ _ := z
        have this : @LT.lt Nat _ _ _ := this
        omega
      · rw [hA2 k (by simpa using ek), hA2 k' (by simpa using ek2)] at z
        exact W.2 k k' d d' (hold k d q ek) (hold k' d' q' ek2) z
  have hin : ∀ k d, wK arrs a a k = some d → wK arrs (a + 1) a k = some d := fun k d q => by
    cases k with
    | zero => exact q
    | succ k =>
      simp only [wK] at q ⊢
      split at q
      · rw [if_pos (by omega)]; exact q
      · cases q
  have O' : Out h0 T'.heap A' (wK arrs (a + 1) a) := ⟨Nat.le_trans O.1 E.1, fun b c q z => E.2 _ _ (O.2 b c q fun k d q1 q2 => by
    rw [← hA3 k (hlow k d q1)]; exact z k d (hin k d q1) q2)⟩
  have N' : Nw n0 A' (wK arrs (a + 1) a) := fun k d q1 q2 => by
    by_cases ek : k = a + 1
    · subst ek; rw [hA1]; exact Nat.le_trans hn O.1
    · rw [hA2 k (by simpa using ek)]; exact N k d (hold k d q1 ek) q2
  have hAE' : AE h0 A0 A' (a + 1) := ⟨by rw [hA3 0 (by omega)]; exact hAE.1, fun k k1 k2 => by
    by_cases ek : k = a + 1
    · subst ek; rw [hA1]; exact O.1
    · rw [hA2 k (by simpa using ek)]; exact hAE.2 k k1 (by omega)⟩
  obtain ⟨s₂, o', st2, r⟩ := κ A' hAE' x' hx T' locs rl X' W' O' N' f (nr_ls hA2 hnr.1 L)
  have e2 : List.map (cv A') (.ref (a + 1) :: St) = .ref T.heap.size :: St.map (cv A) := by
    rw [List.map_cons, nr_map hA2 hnr.2]; simp only [cv]; rw [hA1]
  rw [e2] at st2
  exact ⟨s₂, o', st _ st2, r⟩
def uqc (cd j : Nat) : Nat → FS → Bool
  | _, [] => true
  | i, x :: r => (x.2.2 != cd || i == j) && uqc cd j (i + 1) r
theorem uqc_ok {cd j : Nat} : ∀ {fs : FS} {i : Nat}, uqc cd j i fs = true → ∀ j' x, fs[j']? = some x → x.2.2 = cd → i + j' = j
  | [], i, _, j', x, h, _ => by simp at h
  | y :: r, i, hu, j', x, h, e => by
    simp only [uqc, Bool.and_eq_true] at hu
    cases j' with
    | zero =>
      simp at h; subst h
      have := hu.1
      simp [e] at this; omega
    | succ j' =>
      rw [List.getElem?_cons_succ] at h
      have := uqc_ok hu.2 j' x h e
      omega
theorem am_putref {arrs : List (FieldType × Nat)} {a j i : Nat} {n d : String} (hd : decode bytes pc = .ok (.putfield i, 3)) (hc : Cx p s m meth c Z own bytes maxL ret mn) (hF : FsOk Z a0 C fs) (wi : (Cond.instantiable C kk).before a0 Z = true) (hfs : fs[j]? = some (n, d, a + 2)) (hu : uqc (a + 2) j 0 fs = true) (wl : (Cond.fieldLink own i C n d).before a0 Z = true) (hL : Lay1 Z a0 C own mn n d)
    (κ : OkR p l e R s m args below meth c Z C fs n0 h0 F A (wK arrs (a + 1) (a + 1)) cells slots (pc + 3) Ls St zs t) : OkR p l e R s m args below meth c Z C fs n0 h0 F A (wK arrs (a + 1) a) cells slots pc Ls (.ref (a + 1) :: .ref 0 :: St) zs t := by
  intro x' hx T locs rl X W O N f L
  have hk : wK arrs (a + 1) a 0 = some (.inl a) := rfl
  have hO := W.1 0 _ hk
  have Fd := hO.2 j n d (a + 2) hfs
  obtain ⟨hlaid, ⟨ty, hty, -, -, t2⟩, hinj⟩ := hF j n d (a + 2) hfs
  obtain ⟨ty', rfl⟩ := t2 (by omega)
  have hL' : (Cond.lays C C n d).before a0 Z = true ∨ ((Cond.laysFinal C C n d).before a0 Z = true ∧ own = C ∧ meth.name = "<init>") := hL.imp id fun q => ⟨q.1, q.2.1, hc.2.2.2.2.2.2.2.trans q.2.2⟩
  obtain ⟨T', h', X', e', Q, st'⟩ := putF X hc.1 hc.2.1 hc.2.2.2.1 (host := "") (Or.inl wl) Via.refl rfl Fd hO.1 hL' wi (v := .ref (A (a + 1))) hty rfl rfl (g := mkF m pc rl.toArray (.ref (A (a + 1)) :: .ref (A 0) :: St.map (cv A))) rfl rfl (hb hc.2.2.1 hd)
  subst e'
  have hsame : ∀ k d, wK arrs (a + 1) (a + 1) k = some d → k ≠ 0 → wK arrs (a + 1) a k = some d := fun k d q ne => by
    cases k with
    | zero => exact absurd rfl ne
    | succ k => exact q
  have hsame' : ∀ k d, wK arrs (a + 1) a k = some d → k ≠ 0 → wK arrs (a + 1) (a + 1) k = some d := fun k d q ne => by
    cases k with
    | zero => exact absurd rfl ne
    | succ k => exact q
  have W1 : Wd Z C fs T'.heap A (wK arrs (a + 1) (a + 1)) zs := by
    refine ⟨fun k d' q => ?_, fun k k' d d' q q' z => ?_⟩
    · by_cases ek : k = 0
      · subst ek
        simp only [wK, Option.some.injEq] at q
        subst q
        refine ⟨hO.1.wr Q, fun j' n' d' cd' hj' => ?_⟩
        by_cases ej : j' = j
        · subst ej
          rw [hfs] at hj'; cases hj'
          have e1 : cv A (fv zs 0 j' (a + 1) (a + 2)) = .ref (A (a + 1)) := by simp [fv, cv]
          rw [e1]
          exact Fd.same Q
        · obtain ⟨hlaid', ⟨ty', hty', -⟩, -⟩ := hF j' n' d' cd' hj'
          have e1 : fv zs 0 j' (a + 1) cd' = fv zs 0 j' a cd' := by
            match cd', hj' with
            | 0, _ => rfl
            | 1, _ => rfl
            | r + 2, hj' =>
              have : r ≠ a := fun e => ej (by subst e; have := uqc_ok hu j' _ hj' rfl; omega)
              simp only [fv]
              by_cases q : r < a
              · rw [if_pos q, if_pos (by omega)]
              · rw [if_neg q, if_neg (by omega)]
          rw [e1]
          exact (hO.2 j' n' d' cd' hj').other Q (Or.inr (slot_ne hlaid' hlaid (fun q => ej (hinj _ _ _ _ hj' q.symm).symm) hty' hty))
      · have hq := hsame k d' q ek
        have ne : A k ≠ A 0 := fun z => ek (W.2 _ _ _ _ hq hk z)
        have := W.1 k d' hq
        rcases d' with q' | ⟨ty, n', o⟩
        · cases k with
          | zero => exact absurd rfl ek
          | succ k => simp only [wK] at q; split at q <;> first | cases q | (rw [Option.map_eq_some_iff] at q; obtain ⟨_, -, z⟩ := q; cases z)
        · obtain ⟨cl, a1, a2, a3⟩ := this
          exact ⟨cl, a1.other Q ne, a2, a3⟩
    · by_cases e1 : k = 0 <;> by_cases e2 : k' = 0
      · omega
      · subst e1; exact W.2 _ _ _ _ hk (hsame k' d' q' e2) z
      · subst e2; exact W.2 _ _ _ _ (hsame k d q e1) hk z
      · exact W.2 _ _ _ _ (hsame k d q e1) (hsame k' d' q' e2) z
  have O1 := O.write hk rfl Q
  have O' : Out h0 T'.heap A (wK arrs (a + 1) (a + 1)) := ⟨O1.1, fun b c q z => O1.2 b c q fun k d q1 q2 => by
    by_cases ek : k = 0
    · subst ek; exact z 0 _ rfl rfl
    · exact z k d (hsame' k d q1 ek) q2⟩
  have N' : Nw n0 A (wK arrs (a + 1) (a + 1)) := fun k d q1 q2 => by
    by_cases ek : k = 0
    · subst ek; exact N 0 _ hk rfl
    · exact N k d (hsame k d q1 ek) q2
  obtain ⟨s₂, o', st2, r⟩ := κ x' hx T' _ rl X' W1 O' N' (Fr.snoc X' f (N 0 _ hk rfl)) L
  exact ⟨s₂, o', st' _ st2, r⟩
/-- the law's world before and after the object is made; w0: what it only reads -/
def wN (w0 : Nat → Option CD) : Nat → Option CD
  | 0 => some (.inl 0)
  | k + 1 => w0 (k + 1)
def wF (arrs : List (FieldType × Nat)) (w0 : Nat → Option CD) (k : Nat) : Option CD := if k ≤ arrs.length then wK arrs arrs.length arrs.length k else w0 k
def Rd (w0 : Nat → Option CD) (mm : Nat) : Prop := ∀ k d, w0 k = some d → wrb d = false ∧ mm < k
theorem am_new {nn i mm : Nat} (hd : decode bytes pc = .ok (.new i, 3)) (hc : Cx p s m meth c Z own bytes maxL ret mn) (hF : FsOk Z a0 C fs) (wl : (Cond.classLink own i C).before a0 Z = true) (wi : (Cond.instantiable C nn).before a0 Z = true) (wz : (Cond.initialized C).before a0 Z = true) (hw0 : Rd w mm) (hnr : Ls.all (nrS fun k => k != 0) = true ∧ St.all (nrV fun k => k != 0) = true) (hn : n0 ≤ h0.size) (hR : cells + 1 ≤ R.cells ∧ slots + nn ≤ R.slots)
    (κ : ∀ A' : Nat → Addr, (∀ k, k ≠ 0 → A' k = A k) → OkR p l e R s m args below meth c Z C fs n0 h0 F A' (wN w) (cells + 1) (slots + nn) (pc + 3) Ls (.ref 0 :: St) zs t) : OkR p l e R s m args below meth c Z C fs n0 h0 F A w cells slots pc Ls St σ t := by
  intro x' hx T locs rl X W O N f L
  obtain ⟨T', h', X', e', E, Ex, D, -, st⟩ := newO X hc.1 hc.2.1 hc.2.2.2.1 wl wi wz rfl (g := mkF m pc rl.toArray (St.map (cv A))) rfl (hb hc.2.2.1 hd) hR.1 hR.2
  subst e'
  obtain ⟨A', hA'⟩ : ∃ A' : Nat → Addr, A' = fun k => if k = 0 then T.heap.size else A k := ⟨_, rfl⟩
  have hA1 : A' 0 = T.heap.size := by rw [hA']; simp
  have hA2 : ∀ k, (k != 0) = true → A' k = A k := fun k q => by rw [hA']; simp only []; rw [if_neg (by simpa using q)]
  have hold : ∀ k d, wN w k = some d → k ≠ 0 → w k = some d := fun k d q ne => by
    cases k with
    | zero => exact absurd rfl ne
    | succ k => exact q
  have hlt : ∀ k d, w k = some d → A k < T.heap.size := fun k d q => by
    have := W.1 k d q
    rcases d with q' | ⟨ty, n', o⟩
    · exact this.1.lt
    · obtain ⟨cl, a1, -⟩ := this; exact a1.lt
  have W' : Wd Z C fs T'.heap A' (wN w) zs := by
    refine ⟨fun k d q => ?_, fun k k' d d' q q' z => ?_⟩
    · by_cases ek : k = 0
      · subst ek
        simp only [wN, Option.some.injEq] at q
        subst q
        rw [show CellOk Z C fs T'.heap A' zs 0 (.inl 0) = (Exa Z T'.heap (A' 0) C ∧ ∀ (j : Nat) (n d : String) (cd : Nat), fs[j]? = some (n, d, cd) → Fld Z T'.heap (A' 0) C n d (cv A' (fv zs 0 j 0 cd))) from rfl, hA1]
        refine ⟨Ex, fun j n d cd hj => ?_⟩
        obtain ⟨hlaid, ⟨ty, hty, t0, t1, t2⟩, -⟩ := hF j n d cd hj
        have := D hlaid hty
        match cd, t0, t1, t2 with
        | 0, t0, _, _ => have e := t0 rfl; subst e; exact this
        | 1, _, t1, _ => have e := t1 rfl; subst e; exact this
        | r + 2, _, _, t2 => obtain ⟨ty', rfl⟩ := t2 (by omega); exact this
      · have hq := hold k d q ek
        have := W.1 k d hq
        have e1 := hA2 k (by simpa using ek)
        rcases d with q' | ⟨ty, n', o⟩
        · have := (hw0 k _ hq).1; cases this
        · obtain ⟨cl, a1, a2, a3⟩ := this
          cases o with
          | none => have := (hw0 k _ hq).1; cases this
          | some f0 => exact ⟨cl, by rw [e1]; exact a1.ext E, a2, a3⟩
    · by_cases e1 : k = 0 <;> by_cases e2 : k' = 0
      · omega
      · subst e1
        have := hlt k' d' (hold k' d' q' e2)
        rw [hA1, hA2 k' (by simpa using e2)] at z
        have z : @Eq Nat _ _ := z
        have this : @LT.lt Nat _ _ _ := this
        omega
      · subst e2
        have := hlt k d (hold k d q e1)
        rw [hA1, hA2 k (by simpa using e1)] at z
        have z : @Eq Nat _ _ := z
        have this : @LT.lt Nat _ _ _ := this
        omega
      · rw [hA2 k (by simpa using e1), hA2 k' (by simpa using e2)] at z
        exact W.2 k k' d d' (hold k d q e1) (hold k' d' q' e2) z
  have O' : Out h0 T'.heap A' (wN w) := ⟨Nat.le_trans O.1 E.1, fun b c q z => E.2 _ _ (O.2 b c q fun k d q1 q2 => by have := (hw0 k d q1).1; rw [q2] at this; cases this)⟩
  have N' : Nw n0 A' (wN w) := fun k d q1 q2 => by
    by_cases ek : k = 0
    · subst ek; rw [hA1]; exact Nat.le_trans hn O.1
    · have := (hw0 k d (hold k d q1 ek)).1; rw [q2] at this; cases this
  obtain ⟨s₂, o', st2, r⟩ := κ A' (fun k q => hA2 k (by simpa using q)) x' hx T' locs rl X' W' O' N' f (nr_ls hA2 hnr.1 L)
  have e2 : List.map (cv A') (.ref 0 :: St) = .ref T.heap.size :: St.map (cv A) := by
    rw [List.map_cons, nr_map hA2 hnr.2]; simp only [cv]; rw [hA1]
  rw [e2] at st2
  exact ⟨s₂, o', st _ st2, r⟩
def ConI (l : Launch) (Z : State) (C : String) (fs : FS) (arrs : List (FieldType × Nat)) (y : MethodName) (bytes : ByteArray) (maxL : Nat) (rm : Room) (as : List Value) (σ' : Sg) : Prop :=
  ∀ (A : Nat → Addr) (n0 : Nat) (h : Heap) (ws : List Jvm.Cond), Wd Z C fs h A (wK arrs 0 0) zs → Nw n0 A (wK arrs 0 0) → n0 ≤ h.size →
    MetFree l y (head1 (Jvm.Cond.code y bytes maxL none :: ws) rm) (fun a U => a = ((.ref 0 :: as).map (cv A)).toArray ∧ Z.Warmed39 U.vm ∧ U.heap = h) (fun _ _ _ _ _ => True) (fun _ U o U' => ∃ v' L, o = .returned v' ∧ (FI Z C fs arrs A h σ' v' U'.heap ∧ Fr n0 L) ∧ FrameEnd U o U' L rm.cells rm.slots)
theorem am_conI {arrs : List (FieldType × Nat)} {y : MethodName} {rm : Room} {as : List Value} {t : Option Sg} (pn : plainName y.cls = true)
    (H : ∀ (p : Program) (e : Env) (s : State) (m : MethodId) (below : List Frame) (meth : Method) (c : Code) (A : Nat → Addr) (n0 : Nat) (h : Heap), n0 ≤ h.size → Cx p s m meth c Z y.cls bytes maxL none y.name → OkR p l e rm s m ((.ref 0 :: as).map (cv A)).toArray below meth c Z C fs n0 h (FI Z C fs arrs A h) A (wK arrs 0 0) 0 0 0 (entL (.ref 0 :: as) maxL) [] zs t) :
    ∀ x, t = some x → ConI l Z C fs arrs y bytes maxL rm as x :=
  fun x ht A n0 h ws W N hn => am_met pn ht W N fun p e s m below meth c hc => H p e s m below meth c A n0 h hn hc
def LkI (Z : State) (a0 : Array Value) (own : String) (i : Nat) (y : MethodName) (b : ByteArray) (mL : Nat) : Prop := (Cond.methodLink own i y).before a0 Z = true ∧ (Cond.instanceMethod y).before a0 Z = true ∧ (Cond.code y b mL none).before a0 Z = true ∧ (Cond.initialized y.cls).before a0 Z = true ∧ notMH y ∧ y.name = "<init>"
theorem am_ctor {arrs : List (FieldType × Nat)} {y : MethodName} {b : ByteArray} {mL i : Nat} {rm : Room} {argsL rest : List Value} {u : Option Sg} {K : Sg → Option α} {W0 : Nat} (hl : LkI Z a0 own i y b mL) (hd : decode bytes pc = .ok (.invokespecial i, 3)) (hc : Cx p s m meth c Z own bytes maxL ret mn) (hw0 : Rd w arrs.length) (hst : St = argsL.reverse ++ .ref 0 :: rest) (har : arity y.desc argsL.length = true)
    (hcon : ∀ x, u = some x → ConI l Z C fs arrs y b mL rm argsL x) (hnr : Ls.all (nrS fun k => k == 0 || decide (arrs.length < k)) = true ∧ rest.all (nrV fun k => k == 0 || decide (arrs.length < k)) = true) (hm : Ls.length = maxL) (hn : n0 ≤ h0.size) (hrm : rm.frames + 1 ≤ R.frames ∧ W0 + (mL + 11) + rm.locals ≤ R.locals ∧ catS rest ≤ W0 ∧ cells + rm.cells ≤ R.cells ∧ slots + rm.slots ≤ R.slots)
    (κ : ∀ (A' : Nat → Addr) (x : Sg), u = some x → OkR p l e R s m args below meth c Z C fs n0 h0 F A' (wF arrs w) (cells + rm.cells) (slots + rm.slots) (pc + 3) Ls rest x (K x)) : OkR p l e R s m args below meth c Z C fs n0 h0 F A (wN w) cells slots pc Ls St zs (u.bind K) := by
  subst hst
  intro x' hx T locs rl X W O N f L
  obtain ⟨r1, r2, r3, r4, r5⟩ := hrm
  cases hu : u with
  | none => rw [hu] at hx; cases hx
  | some y0 =>
    rw [hu] at hx
    have hx' : K y0 = some x' := hx
    have hS : SubW (wK arrs 0 0) (wN w) := by
      refine ⟨fun k d q => ?_, fun k d q => ?_⟩
      · cases k with
        | zero => exact q
        | succ k => simp only [wK] at q; split at q <;> first | omega | cases q
      · cases k with
        | zero => exact Or.inl q
        | succ k => exact Or.inr (hw0 _ _ q).1
    have hnT : n0 ≤ T.heap.size := Nat.le_trans hn O.1
    have hM := hcon y0 hu A n0 T.heap [] (hS.wd W) (fun k d q1 q2 => N k d (hS.1 k d q1) q2) hnT
    have hB := backOf (h := T.heap) (Q := fun v' h' L => FI Z C fs arrs A T.heap y0 v' h' ∧ Fr n0 L) (W := W0) (R := R) (p := p) (e := e) (below := below) (s := s) (args := args) (len := 3) hM hc.2.1 hl.2.2.1 hl.2.2.2.1 r1 r2
    have hsz : (mkF m pc rl.toArray (List.map (cv A) (argsL.reverse ++ .ref 0 :: rest))).locals.size = c.maxLocals := by show rl.toArray.size = _; rw [List.size_toArray, L.1, hm, hc.2.2.2.2.1]
    obtain ⟨v, _, ⟨T1, L1, k1, n1⟩, -, X1, ⟨Lc, hQ, l1, c1, s1⟩, st⟩ := X.specialBack hc.1 (y := y) hl.2.2.2.2.2 hc.2.2.2.1 (mv hc.2.1 hl.1) (mv hc.2.1 hl.2.1) (mv hc.2.1 hl.2.2.1) hl.2.2.2.2.1 hB (g := mkF m pc rl.toArray (List.map (cv A) (argsL.reverse ++ .ref 0 :: rest))) rfl hsz (Steps.refl _) (a := A 0) (argsL := argsL.map (cv A)) (rest := rest.map (cv A)) (arity_ok har (by simp)) (by simp [cv]) (by show 2 * 0 + _ ≤ W0; rw [catS_map]; omega) (hb hc.2.2.1 hd) (fun _ _ => ⟨by simp [cv], rfl, by dsimp only [Pt.cells]; omega, by dsimp only [Pt.slots]; omega⟩)
    dsimp only [Pt.U, Pt.locs, Pt.cells, Pt.slots] at X1 l1 c1 s1 st hQ
    subst l1 c1 s1
    obtain ⟨⟨rfl, B, hAE, W1, z1, z2⟩, N1⟩ := hQ
    obtain ⟨A', hA'⟩ : ∃ A' : Nat → Addr, A' = fun k => if k ≤ arrs.length then B k else A k := ⟨_, rfl⟩
    have hA1 : ∀ k, k ≤ arrs.length → A' k = B k := fun k q => by rw [hA']; simp only []; rw [if_pos q]
    have hA2 : ∀ k, arrs.length < k → A' k = A k := fun k q => by rw [hA']; simp only []; rw [if_neg (by omega)]
    have hA3 : ∀ k, (k == 0 || decide (arrs.length < k)) = true → A' k = A k := fun k q => by
      simp only [Bool.or_eq_true, beq_iff_eq, decide_eq_true_eq] at q
      rcases q with rfl | q
      · rw [hA1 0 (by omega)]; exact hAE.1
      · exact hA2 k q
    have hk0 : wN w 0 = some (.inl 0) := rfl
    have hconst : ∀ k d, arrs.length < k → w k = some d → wN w k = some d := fun k d q1 q2 => by
      cases k with
      | zero => omega
      | succ k => exact q2
    have hsmall : ∀ k d, wK arrs arrs.length arrs.length k = some d → k ≤ arrs.length := fun k d q => by
      cases k with
      | zero => omega
      | succ k => simp only [wK] at q; split at q <;> first | omega | cases q
    have hcell : ∀ k d, w k = some d → ∃ cl : Cell, T.heap[A k]? = some cl ∧ T1.heap[A k]? = some cl := fun k d q => by
      have hr := hw0 k d q
      have q' := hconst k d hr.2 q
      rcases d with q' | ⟨ty, n', o⟩
      · cases hr.1
      · obtain ⟨cl, a1, -⟩ := W.1 k _ q'
        exact ⟨cl, a1.1, z2 _ _ a1.1 fun e => by have := W.2 _ _ _ _ q' hk0 e; omega⟩
    have W' : Wd Z C fs T1.heap A' (wF arrs w) y0 := by
      refine ⟨fun k d q => ?_, fun k k' d d' q q' z => ?_⟩
      · unfold wF at q
        split at q
        · rename_i hle
          have := W1.1 k d q
          rcases d with q' | ⟨ty, n', o⟩
          · rw [show CellOk Z C fs T1.heap A' y0 k (.inl q') = (Exa Z T1.heap (A' k) C ∧ ∀ (j : Nat) (n d : String) (cd : Nat), fs[j]? = some (n, d, cd) → Fld Z T1.heap (A' k) C n d (cv A' (fv y0 k j q' cd))) from rfl, hA1 k hle]
            refine ⟨this.1, fun j n d cd hj => ?_⟩
            have e1 : cv A' (fv y0 k j q' cd) = cv B (fv y0 k j q' cd) := by
              refine nrV_cv (ok := fun k => decide (k ≤ arrs.length)) (fun k q => hA1 k (of_decide_eq_true q)) ?_
              match cd with
              | 0 => rfl
              | 1 => rfl
              | r + 2 =>
                cases k with
                | zero =>
                  simp only [wK, Option.some.injEq, Sum.inl.injEq] at q
                  subst q
                  simp only [fv]
                  split
                  · simp [nrV]; omega
                  · rfl
                | succ k => simp only [wK] at q; split at q <;> first | cases q | (rw [Option.map_eq_some_iff] at q; obtain ⟨_, -, z⟩ := q; cases z)
            rw [e1]; exact this.2 j n d cd hj
          · obtain ⟨cl, a1, a2, a3⟩ := this
            exact ⟨cl, by rw [hA1 k hle]; exact a1, a2, a3⟩
        · rename_i hle
          have hr := hw0 k d q
          obtain ⟨cl, b1, b2⟩ := hcell k d q
          have := W.1 k d (hconst k d hr.2 q)
          rcases d with q' | ⟨ty, n', o⟩
          · cases hr.1
          · obtain ⟨cl', a1, a2, a3⟩ := this
            cases o with
            | none => cases hr.1
            | some f0 =>
              have := a1.1
              rw [b1] at this; cases this
              exact ⟨cl, by rw [hA2 k hr.2]; exact ⟨b2, a1.2⟩, a2, a3⟩
      · have hlo : ∀ k d, wF arrs w k = some d → (k ≤ arrs.length ∧ wK arrs arrs.length arrs.length k = some d) ∨ (arrs.length < k ∧ w k = some d) := fun k d q => by
          unfold wF at q
          split at q
          · exact Or.inl ⟨by assumption, q⟩
          · exact Or.inr ⟨by omega, q⟩
        have hmix : ∀ (k k' : Nat) (d d' : CD), k ≤ arrs.length → arrs.length < k' → w k' = some d' → B k ≠ A k' := fun k k' d d' q1 q2 q3 e => by
          obtain ⟨cl, b1, -⟩ := hcell k' d' q3
          have hsz := (Array.getElem?_eq_some_iff.mp b1).1
          cases k with
          | zero =>
            have := W.2 _ _ _ _ hk0 (hconst k' d' q2 q3) (hAE.1.symm.trans e)
            omega
          | succ k =>
            have := hAE.2 (k + 1) (by omega) q1
            have e : @Eq Nat _ _ := e
            have hsz : @LT.lt Nat _ _ _ := hsz
            omega
        rcases hlo k d q with ⟨q1, q2⟩ | ⟨q1, q2⟩ <;> rcases hlo k' d' q' with ⟨q3, q4⟩ | ⟨q3, q4⟩
        · rw [hA1 k q1, hA1 k' q3] at z; exact W1.2 _ _ _ _ q2 q4 z
        · rw [hA1 k q1, hA2 k' q3] at z; exact absurd z (hmix k k' d d' q1 q3 q4)
        · rw [hA2 k q1, hA1 k' q3] at z; exact absurd z.symm (hmix k' k d' d q3 q1 q2)
        · rw [hA2 k q1, hA2 k' q3] at z; exact W.2 _ _ _ _ (hconst k d q1 q2) (hconst k' d' q3 q4) z
    have O' : Out h0 T1.heap A' (wF arrs w) := ⟨Nat.le_trans O.1 z1, fun b c q z => by
      have hb0 : A 0 ≠ b := fun e => z 0 (.inl arrs.length) rfl rfl (by rw [hA1 0 (by omega), hAE.1]; exact e)
      refine z2 b c (O.2 b c q fun k d q1 q2 => ?_) hb0.symm
      cases k with
      | zero => exact hb0
      | succ k => have := (hw0 _ _ (show w (k + 1) = some d from q1)).1; rw [q2] at this; cases this⟩
    have N' : Nw n0 A' (wF arrs w) := fun k d q1 q2 => by
      unfold wF at q1
      split at q1
      · rename_i hle
        rw [hA1 k hle]
        cases k with
        | zero => rw [hAE.1]; exact N 0 _ hk0 rfl
        | succ k => exact Nat.le_trans hnT (hAE.2 (k + 1) (by omega) hle)
      · have := (hw0 k d q1).1; rw [q2] at this; cases this
    obtain ⟨s₂, o', st2, r⟩ := κ A' y0 hu x' hx' T1 _ rl X1 W' O' N' (Fr.app f N1) (nr_ls hA3 hnr.1 L)
    rw [nr_map hA3 hnr.2] at st2
    exact ⟨s₂, o', st.trans st2, r⟩
end AM
section AM6
variable {p : Program} {l : Launch} {e : Env} {R : Room} {s : State} {m : MethodId} {args : Array Value} {below : List Frame} {meth : Method} {c : Code} {Z : State} {a0 : Array Value} {C own : String} {bytes : ByteArray} {maxL : Nat} {ret : Option FieldType} {mn : String} {fs : FS} {fl pfl : List (Nat × Nat)} {kI : List (Nat × Int32)} {kJ : List (Nat × Int64)} {n0 kk : Nat} {h0 : Heap} {α : Type} {F : α → Option Value → Heap → Prop} {A : Nat → Addr} {w : Nat → Option CD} {cells slots pc : Nat} {Ls Ls' : List Slot} {St St' : List Value} {σ σ' : Sg} {t : Option α}
def fI (r : Int32 × Sg) : Option Value × Sg := (some (.int r.1), r.2)
def fJ (r : Int64 × Sg) : Option Value × Sg := (some (.long r.1), r.2)
def fV (r : Sg) : Option Value × Sg := (none, r)
def FL (r : Int32 × Sg) (v : Option Value) (_ : Heap) : Prop := v = some (.int r.1)
theorem am_callP_I {y : MethodName} {b : ByteArray} {mL i : Nat} {rt : Option FieldType} {rm : Room} {wc : Nat → Option CD} {argsL rest : List Value} {u : Option (Int32 × Sg)} {K : (Int32 × Sg) → Option α} {W0 : Nat} {k q : Nat} (hk : wc k = some (.inl q)) (hl : LkP Z a0 own i y b mL rt) (hyc : y.cls = C) (wi : (Cond.instantiable C kk).before a0 Z = true) (hd : decode bytes pc = .ok (.invokevirtual i, 3)) (hc : Cx p s m meth c Z own bytes maxL ret mn) (hS : SubW wc w) (hst : St = argsL.reverse ++ .ref k :: rest) (har : arity y.desc argsL.length = true)
    (hcon : ∀ x, u = some x → Con l Z C fs y b mL rt rm wc (.ref k :: argsL) σ (fI x).1 (fI x).2) (hm : Ls.length = maxL) (hrm : rm.frames + 1 ≤ R.frames ∧ W0 + (mL + 11) + rm.locals ≤ R.locals ∧ catS rest ≤ W0 ∧ rm.cells = 0 ∧ rm.slots = 0 ∧ cells ≤ R.cells ∧ slots ≤ R.slots)
    (κ : ∀ x, u = some x → OkR p l e R s m args below meth c Z C fs n0 h0 F A w cells slots (pc + 3) Ls (.int x.1 :: rest) x.2 (K x)) : OkR p l e R s m args below meth c Z C fs n0 h0 F A w cells slots pc Ls St σ (u.bind K) :=
  am_callP (g := fI) hk hl hyc wi hd hc hS hst har hcon hm hrm κ
theorem am_callP_J {y : MethodName} {b : ByteArray} {mL i : Nat} {rt : Option FieldType} {rm : Room} {wc : Nat → Option CD} {argsL rest : List Value} {u : Option (Int64 × Sg)} {K : (Int64 × Sg) → Option α} {W0 : Nat} {k q : Nat} (hk : wc k = some (.inl q)) (hl : LkP Z a0 own i y b mL rt) (hyc : y.cls = C) (wi : (Cond.instantiable C kk).before a0 Z = true) (hd : decode bytes pc = .ok (.invokevirtual i, 3)) (hc : Cx p s m meth c Z own bytes maxL ret mn) (hS : SubW wc w) (hst : St = argsL.reverse ++ .ref k :: rest) (har : arity y.desc argsL.length = true)
    (hcon : ∀ x, u = some x → Con l Z C fs y b mL rt rm wc (.ref k :: argsL) σ (fJ x).1 (fJ x).2) (hm : Ls.length = maxL) (hrm : rm.frames + 1 ≤ R.frames ∧ W0 + (mL + 11) + rm.locals ≤ R.locals ∧ catS rest ≤ W0 ∧ rm.cells = 0 ∧ rm.slots = 0 ∧ cells ≤ R.cells ∧ slots ≤ R.slots)
    (κ : ∀ x, u = some x → OkR p l e R s m args below meth c Z C fs n0 h0 F A w cells slots (pc + 3) Ls (.long x.1 :: rest) x.2 (K x)) : OkR p l e R s m args below meth c Z C fs n0 h0 F A w cells slots pc Ls St σ (u.bind K) :=
  am_callP (g := fJ) hk hl hyc wi hd hc hS hst har hcon hm hrm κ
theorem am_callP_V {y : MethodName} {b : ByteArray} {mL i : Nat} {rt : Option FieldType} {rm : Room} {wc : Nat → Option CD} {argsL rest : List Value} {u : Option Sg} {K : Sg → Option α} {W0 : Nat} {k q : Nat} (hk : wc k = some (.inl q)) (hl : LkP Z a0 own i y b mL rt) (hyc : y.cls = C) (wi : (Cond.instantiable C kk).before a0 Z = true) (hd : decode bytes pc = .ok (.invokevirtual i, 3)) (hc : Cx p s m meth c Z own bytes maxL ret mn) (hS : SubW wc w) (hst : St = argsL.reverse ++ .ref k :: rest) (har : arity y.desc argsL.length = true)
    (hcon : ∀ x, u = some x → Con l Z C fs y b mL rt rm wc (.ref k :: argsL) σ (fV x).1 (fV x).2) (hm : Ls.length = maxL) (hrm : rm.frames + 1 ≤ R.frames ∧ W0 + (mL + 11) + rm.locals ≤ R.locals ∧ catS rest ≤ W0 ∧ rm.cells = 0 ∧ rm.slots = 0 ∧ cells ≤ R.cells ∧ slots ≤ R.slots)
    (κ : ∀ x, u = some x → OkR p l e R s m args below meth c Z C fs n0 h0 F A w cells slots (pc + 3) Ls (rest) x (K x)) : OkR p l e R s m args below meth c Z C fs n0 h0 F A w cells slots pc Ls St σ (u.bind K) :=
  am_callP (g := fV) hk hl hyc wi hd hc hS hst har hcon hm hrm κ
theorem am_callV_I {y : MethodName} {b : ByteArray} {mL i : Nat} {rt : Option FieldType} {rm : Room} {wc : Nat → Option CD} {argsL rest : List Value} {u : Option (Int32 × Sg)} {K : (Int32 × Sg) → Option α} {W0 : Nat} {k q : Nat} (hk : wc k = some (.inl q)) (hl : LkV Z a0 own i y b mL rt) (hyc : y.cls = C) (hd : decode bytes pc = .ok (.invokevirtual i, 3)) (hc : Cx p s m meth c Z own bytes maxL ret mn) (hS : SubW wc w) (hst : St = argsL.reverse ++ .ref k :: rest) (har : arity y.desc argsL.length = true)
    (hcon : ∀ x, u = some x → Con l Z C fs y b mL rt rm wc (.ref k :: argsL) σ (fI x).1 (fI x).2) (hm : Ls.length = maxL) (hrm : rm.frames + 1 ≤ R.frames ∧ W0 + (mL + 11) + rm.locals ≤ R.locals ∧ catS rest ≤ W0 ∧ rm.cells = 0 ∧ rm.slots = 0 ∧ cells ≤ R.cells ∧ slots ≤ R.slots)
    (κ : ∀ x, u = some x → OkR p l e R s m args below meth c Z C fs n0 h0 F A w cells slots (pc + 3) Ls (.int x.1 :: rest) x.2 (K x)) : OkR p l e R s m args below meth c Z C fs n0 h0 F A w cells slots pc Ls St σ (u.bind K) :=
  am_callV (g := fI) hk hl hyc hd hc hS hst har hcon hm hrm κ
theorem am_callV_J {y : MethodName} {b : ByteArray} {mL i : Nat} {rt : Option FieldType} {rm : Room} {wc : Nat → Option CD} {argsL rest : List Value} {u : Option (Int64 × Sg)} {K : (Int64 × Sg) → Option α} {W0 : Nat} {k q : Nat} (hk : wc k = some (.inl q)) (hl : LkV Z a0 own i y b mL rt) (hyc : y.cls = C) (hd : decode bytes pc = .ok (.invokevirtual i, 3)) (hc : Cx p s m meth c Z own bytes maxL ret mn) (hS : SubW wc w) (hst : St = argsL.reverse ++ .ref k :: rest) (har : arity y.desc argsL.length = true)
    (hcon : ∀ x, u = some x → Con l Z C fs y b mL rt rm wc (.ref k :: argsL) σ (fJ x).1 (fJ x).2) (hm : Ls.length = maxL) (hrm : rm.frames + 1 ≤ R.frames ∧ W0 + (mL + 11) + rm.locals ≤ R.locals ∧ catS rest ≤ W0 ∧ rm.cells = 0 ∧ rm.slots = 0 ∧ cells ≤ R.cells ∧ slots ≤ R.slots)
    (κ : ∀ x, u = some x → OkR p l e R s m args below meth c Z C fs n0 h0 F A w cells slots (pc + 3) Ls (.long x.1 :: rest) x.2 (K x)) : OkR p l e R s m args below meth c Z C fs n0 h0 F A w cells slots pc Ls St σ (u.bind K) :=
  am_callV (g := fJ) hk hl hyc hd hc hS hst har hcon hm hrm κ
theorem am_callV_V {y : MethodName} {b : ByteArray} {mL i : Nat} {rt : Option FieldType} {rm : Room} {wc : Nat → Option CD} {argsL rest : List Value} {u : Option Sg} {K : Sg → Option α} {W0 : Nat} {k q : Nat} (hk : wc k = some (.inl q)) (hl : LkV Z a0 own i y b mL rt) (hyc : y.cls = C) (hd : decode bytes pc = .ok (.invokevirtual i, 3)) (hc : Cx p s m meth c Z own bytes maxL ret mn) (hS : SubW wc w) (hst : St = argsL.reverse ++ .ref k :: rest) (har : arity y.desc argsL.length = true)
    (hcon : ∀ x, u = some x → Con l Z C fs y b mL rt rm wc (.ref k :: argsL) σ (fV x).1 (fV x).2) (hm : Ls.length = maxL) (hrm : rm.frames + 1 ≤ R.frames ∧ W0 + (mL + 11) + rm.locals ≤ R.locals ∧ catS rest ≤ W0 ∧ rm.cells = 0 ∧ rm.slots = 0 ∧ cells ≤ R.cells ∧ slots ≤ R.slots)
    (κ : ∀ x, u = some x → OkR p l e R s m args below meth c Z C fs n0 h0 F A w cells slots (pc + 3) Ls (rest) x (K x)) : OkR p l e R s m args below meth c Z C fs n0 h0 F A w cells slots pc Ls St σ (u.bind K) :=
  am_callV (g := fV) hk hl hyc hd hc hS hst har hcon hm hrm κ
theorem am_callS_I {y : MethodName} {b : ByteArray} {mL i : Nat} {rt : Option FieldType} {rm : Room} {wc : Nat → Option CD} {argsL rest : List Value} {u : Option (Int32 × Sg)} {K : (Int32 × Sg) → Option α} {W0 : Nat} (hl : LkS Z a0 own i y b mL rt) (hd : decode bytes pc = .ok (.invokestatic i, 3)) (hc : Cx p s m meth c Z own bytes maxL ret mn) (hS : SubW wc w) (hst : St = argsL.reverse ++ rest) (har : arity y.desc argsL.length = true)
    (hcon : ∀ x, u = some x → Con l Z C fs y b mL rt rm wc argsL σ (fI x).1 (fI x).2) (hm : Ls.length = maxL) (hrm : rm.frames + 1 ≤ R.frames ∧ W0 + (mL + 11) + rm.locals ≤ R.locals ∧ catS rest ≤ W0 ∧ rm.cells = 0 ∧ rm.slots = 0 ∧ cells ≤ R.cells ∧ slots ≤ R.slots)
    (κ : ∀ x, u = some x → OkR p l e R s m args below meth c Z C fs n0 h0 F A w cells slots (pc + 3) Ls (.int x.1 :: rest) x.2 (K x)) : OkR p l e R s m args below meth c Z C fs n0 h0 F A w cells slots pc Ls St σ (u.bind K) :=
  am_callS (g := fI) hl hd hc hS hst har hcon hm hrm κ
theorem am_callS_J {y : MethodName} {b : ByteArray} {mL i : Nat} {rt : Option FieldType} {rm : Room} {wc : Nat → Option CD} {argsL rest : List Value} {u : Option (Int64 × Sg)} {K : (Int64 × Sg) → Option α} {W0 : Nat} (hl : LkS Z a0 own i y b mL rt) (hd : decode bytes pc = .ok (.invokestatic i, 3)) (hc : Cx p s m meth c Z own bytes maxL ret mn) (hS : SubW wc w) (hst : St = argsL.reverse ++ rest) (har : arity y.desc argsL.length = true)
    (hcon : ∀ x, u = some x → Con l Z C fs y b mL rt rm wc argsL σ (fJ x).1 (fJ x).2) (hm : Ls.length = maxL) (hrm : rm.frames + 1 ≤ R.frames ∧ W0 + (mL + 11) + rm.locals ≤ R.locals ∧ catS rest ≤ W0 ∧ rm.cells = 0 ∧ rm.slots = 0 ∧ cells ≤ R.cells ∧ slots ≤ R.slots)
    (κ : ∀ x, u = some x → OkR p l e R s m args below meth c Z C fs n0 h0 F A w cells slots (pc + 3) Ls (.long x.1 :: rest) x.2 (K x)) : OkR p l e R s m args below meth c Z C fs n0 h0 F A w cells slots pc Ls St σ (u.bind K) :=
  am_callS (g := fJ) hl hd hc hS hst har hcon hm hrm κ
theorem am_callS_V {y : MethodName} {b : ByteArray} {mL i : Nat} {rt : Option FieldType} {rm : Room} {wc : Nat → Option CD} {argsL rest : List Value} {u : Option Sg} {K : Sg → Option α} {W0 : Nat} (hl : LkS Z a0 own i y b mL rt) (hd : decode bytes pc = .ok (.invokestatic i, 3)) (hc : Cx p s m meth c Z own bytes maxL ret mn) (hS : SubW wc w) (hst : St = argsL.reverse ++ rest) (har : arity y.desc argsL.length = true)
    (hcon : ∀ x, u = some x → Con l Z C fs y b mL rt rm wc argsL σ (fV x).1 (fV x).2) (hm : Ls.length = maxL) (hrm : rm.frames + 1 ≤ R.frames ∧ W0 + (mL + 11) + rm.locals ≤ R.locals ∧ catS rest ≤ W0 ∧ rm.cells = 0 ∧ rm.slots = 0 ∧ cells ≤ R.cells ∧ slots ≤ R.slots)
    (κ : ∀ x, u = some x → OkR p l e R s m args below meth c Z C fs n0 h0 F A w cells slots (pc + 3) Ls (rest) x (K x)) : OkR p l e R s m args below meth c Z C fs n0 h0 F A w cells slots pc Ls St σ (u.bind K) :=
  am_callS (g := fV) hl hd hc hS hst har hcon hm hrm κ
theorem am_tsw {x v : Int32} {vi dflt low high o : Int} {offs : Array Int} {len pcv : Nat} {t1 t2 : Option α} (hd : decode bytes pc = .ok (.tableswitch dflt low high offs, len)) (hin : ¬ (vi < low ∨ vi > high)) (hoff : offs[(vi - low).toNat]? = some o) (ho : 0 ≤ (pc : Int) + o) (hp : ((pc : Int) + o).toNat = pcv) (hv : v.toInt = vi) (hc : Cx p s m meth c Z own bytes maxL ret mn)
    (k1 : x = v → OkR p l e R s m args below meth c Z C fs n0 h0 F A w cells slots pcv Ls St σ t1) (k2 : x.toInt ≠ vi → OkR p l e R s m args below meth c Z C fs n0 h0 F A w cells slots pc Ls (.int x :: St) σ t2) : OkR p l e R s m args below meth c Z C fs n0 h0 F A w cells slots pc Ls (.int x :: St) σ (if x = v then t1 else t2) := by
  by_cases q : x = v
  · rw [if_pos q]
    intro x' hx T locs rl X W O N f L
    obtain ⟨s₂, o', st, r⟩ := k1 q x' hx T locs rl X W O N f L
    subst q
    subst hv
    exact ⟨s₂, o', XS.tswIn X.here hc.1 rfl (pc0 := pc) rfl (hb hc.2.2.1 hd) rfl hin hoff ho hp st, r⟩
  · rw [if_neg q]
    exact k2 fun e => q (Int32.toInt_inj.mp (e.trans hv.symm))
theorem am_tswD {x : Int32} {dflt low high : Int} {offs : Array Int} {len pcv : Nat} (hd : decode bytes pc = .ok (.tableswitch dflt low high offs, len)) (hout : x.toInt < low ∨ x.toInt > high) (ho : 0 ≤ (pc : Int) + dflt) (hp : ((pc : Int) + dflt).toNat = pcv) (hc : Cx p s m meth c Z own bytes maxL ret mn)
    (k1 : OkR p l e R s m args below meth c Z C fs n0 h0 F A w cells slots pcv Ls St σ t) : OkR p l e R s m args below meth c Z C fs n0 h0 F A w cells slots pc Ls (.int x :: St) σ t := by
  intro x' hx T locs rl X W O N f L
  obtain ⟨s₂, o', st, r⟩ := k1 x' hx T locs rl X W O N f L
  exact ⟨s₂, o', XS.tswOut X.here hc.1 rfl (pc0 := pc) rfl (hb hc.2.2.1 hd) rfl hout ho hp st, r⟩
theorem subF {arrs : List (FieldType × Nat)} {w0 : Nat → Option CD} (h : Rd w0 arrs.length) : SubW (wK arrs arrs.length arrs.length) (wF arrs w0) := by
  refine ⟨fun k d q => ?_, fun k d q => ?_⟩
  · unfold wF
    have : k ≤ arrs.length := by
      cases k with
      | zero => omega
      | succ k => simp only [wK] at q; split at q <;> first | omega | cases q
    rw [if_pos this]; exact q
  · unfold wF at q
    split at q
    · exact Or.inl q
    · exact Or.inr (h k d q).1
end AM6
def WH (a0 : Array Value) (Z : State) : Prop := ∀ d ∈ tables_1, d.before a0 Z = true
abbrev fsC : FS := [("roots", "[I", 2), ("heap", "[I", 3), ("pageCls", "[I", 4), ("pageShift", "[I", 5), ("liveMask", "[I", 6), ("liveCnt", "[I", 7), ("black", "[Z", 8), ("classPages", "[I", 9), ("markMask", "[I", 10), ("markStack", "[I", 11), ("pageCount", "I", 0), ("rootCap", "I", 0), ("depth", "I", 0), ("freePages", "I", 0), ("blackPages", "I", 0), ("liveTotal", "I", 0), ("markSp", "I", 0), ("markedTotal", "I", 0), ("pointedPages", "I", 0)]
abbrev arrsC : List (FieldType × Nat) := [(.int, 32), (.int, 256), (.int, 16), (.int, 16), (.int, 16), (.int, 16), (.boolean, 16), (.int, 5), (.int, 16), (.int, 256)]
abbrev wC : Nat → Option CD := wK arrsC 10 10
-- fields: 0:roots, 1:heap, 2:pageCls, 3:pageShift, 4:liveMask, 5:liveCnt, 6:black, 7:classPages, 8:markMask, 9:markStack, 10:pageCount, 11:rootCap, 12:depth, 13:freePages, 14:blackPages, 15:liveTotal, 16:markSp, 17:markedTotal, 18:pointedPages
def flC : List (Nat × Nat) := [(7, 0), (13, 1), (16, 2), (19, 3), (22, 4), (25, 5), (28, 6), (32, 7), (35, 8), (38, 9), (41, 10), (45, 11), (48, 12), (55, 13), (58, 14), (61, 15), (121, 17), (127, 16), (130, 18)]
def pflC : List (Nat × Nat) := [(7, 0), (13, 1), (16, 2), (19, 3), (22, 4), (25, 5), (28, 6), (32, 7), (35, 8), (38, 9), (41, 10), (45, 11), (48, 12), (55, 13), (58, 14), (61, 15), (121, 17), (127, 16), (130, 18)]
def kIC : List (Nat × Int32) := []
def kJC : List (Nat × Int64) := []
def kIL : List (Nat × Int32) := []
def kJL : List (Nat × Int64) := [(48, 31)]
theorem pnC : plainName "ConservativeBiY" = true := by first | (simp [plainName, overriddenIn]; done) | decide +kernel
theorem pnL : plainName "ConservativeBiYL7" = true := by first | (simp [plainName, overriddenIn]; done) | decide +kernel
section Words
variable {a0 : Array Value} {Z : State}
theorem wiC (hw : WH a0 Z) : (Cond.instantiable "ConservativeBiY" 19).before a0 Z = true := hw _ (List.mem_of_getElem? (i := 1) rfl)
theorem wzC (hw : WH a0 Z) : (Cond.initialized "ConservativeBiY").before a0 Z = true := hw _ (List.mem_of_getElem? (i := 2) rfl)
theorem fsok_1 : ∀ (j j' : Nat) (x x' : String × String × Nat), fsC[j]? = some x → fsC[j']? = some x' → x.1 = x'.1 → j = j' := by
  have key : (fsC.map (·.1)).Nodup := by decide
  intro j j' x x' h h' e
  have h1 : (fsC.map (·.1))[j]? = some x.1 := by rw [List.getElem?_map, h]; rfl
  have h2 : (fsC.map (·.1))[j']? = some x.1 := by rw [List.getElem?_map, h', e]; rfl
  obtain ⟨b1, e1⟩ := List.getElem?_eq_some_iff.mp h1
  obtain ⟨b2, e2⟩ := List.getElem?_eq_some_iff.mp h2
  exact (List.getElem?_inj b1 key).mp (h1.trans h2.symm)
theorem fsokC (hw : WH a0 Z) : FsOk Z a0 "ConservativeBiY" fsC := by
  intro j n d cd h
  refine ⟨?_, ?_, fun j' n' d' cd' h' e => fsok_1 j j' _ _ h h' e⟩
  all_goals (have hm := List.mem_of_getElem? h; simp only [fsC, List.mem_cons, List.not_mem_nil, or_false, Prod.mk.injEq] at hm)
  · rcases hm with ⟨rfl, rfl, rfl⟩ | ⟨rfl, rfl, rfl⟩ | ⟨rfl, rfl, rfl⟩ | ⟨rfl, rfl, rfl⟩ | ⟨rfl, rfl, rfl⟩ | ⟨rfl, rfl, rfl⟩ | ⟨rfl, rfl, rfl⟩ | ⟨rfl, rfl, rfl⟩ | ⟨rfl, rfl, rfl⟩ | ⟨rfl, rfl, rfl⟩ | ⟨rfl, rfl, rfl⟩ | ⟨rfl, rfl, rfl⟩ | ⟨rfl, rfl, rfl⟩ | ⟨rfl, rfl, rfl⟩ | ⟨rfl, rfl, rfl⟩ | ⟨rfl, rfl, rfl⟩ | ⟨rfl, rfl, rfl⟩ | ⟨rfl, rfl, rfl⟩ | ⟨rfl, rfl, rfl⟩
    · exact Or.inl (hw _ (List.mem_of_getElem? (i := 11) rfl))
    · exact Or.inl (hw _ (List.mem_of_getElem? (i := 13) rfl))
    · exact Or.inl (hw _ (List.mem_of_getElem? (i := 15) rfl))
    · exact Or.inl (hw _ (List.mem_of_getElem? (i := 17) rfl))
    · exact Or.inl (hw _ (List.mem_of_getElem? (i := 19) rfl))
    · exact Or.inl (hw _ (List.mem_of_getElem? (i := 21) rfl))
    · exact Or.inl (hw _ (List.mem_of_getElem? (i := 24) rfl))
    · exact Or.inl (hw _ (List.mem_of_getElem? (i := 26) rfl))
    · exact Or.inl (hw _ (List.mem_of_getElem? (i := 28) rfl))
    · exact Or.inl (hw _ (List.mem_of_getElem? (i := 30) rfl))
    · exact Or.inl (hw _ (List.mem_of_getElem? (i := 32) rfl))
    · exact Or.inl (hw _ (List.mem_of_getElem? (i := 34) rfl))
    · exact Or.inl (hw _ (List.mem_of_getElem? (i := 36) rfl))
    · exact Or.inl (hw _ (List.mem_of_getElem? (i := 42) rfl))
    · exact Or.inl (hw _ (List.mem_of_getElem? (i := 44) rfl))
    · exact Or.inl (hw _ (List.mem_of_getElem? (i := 46) rfl))
    · exact Or.inl (hw _ (List.mem_of_getElem? (i := 190) rfl))
    · exact Or.inl (hw _ (List.mem_of_getElem? (i := 192) rfl))
    · exact Or.inl (hw _ (List.mem_of_getElem? (i := 194) rfl))
  · rcases hm with ⟨rfl, rfl, rfl⟩ | ⟨rfl, rfl, rfl⟩ | ⟨rfl, rfl, rfl⟩ | ⟨rfl, rfl, rfl⟩ | ⟨rfl, rfl, rfl⟩ | ⟨rfl, rfl, rfl⟩ | ⟨rfl, rfl, rfl⟩ | ⟨rfl, rfl, rfl⟩ | ⟨rfl, rfl, rfl⟩ | ⟨rfl, rfl, rfl⟩ | ⟨rfl, rfl, rfl⟩ | ⟨rfl, rfl, rfl⟩ | ⟨rfl, rfl, rfl⟩ | ⟨rfl, rfl, rfl⟩ | ⟨rfl, rfl, rfl⟩ | ⟨rfl, rfl, rfl⟩ | ⟨rfl, rfl, rfl⟩ | ⟨rfl, rfl, rfl⟩ | ⟨rfl, rfl, rfl⟩
    · exact ⟨.array .int, by decide +kernel, fun q => absurd q (by decide), fun q => absurd q (by decide), fun _ => ⟨_, rfl⟩⟩
    · exact ⟨.array .int, by decide +kernel, fun q => absurd q (by decide), fun q => absurd q (by decide), fun _ => ⟨_, rfl⟩⟩
    · exact ⟨.array .int, by decide +kernel, fun q => absurd q (by decide), fun q => absurd q (by decide), fun _ => ⟨_, rfl⟩⟩
    · exact ⟨.array .int, by decide +kernel, fun q => absurd q (by decide), fun q => absurd q (by decide), fun _ => ⟨_, rfl⟩⟩
    · exact ⟨.array .int, by decide +kernel, fun q => absurd q (by decide), fun q => absurd q (by decide), fun _ => ⟨_, rfl⟩⟩
    · exact ⟨.array .int, by decide +kernel, fun q => absurd q (by decide), fun q => absurd q (by decide), fun _ => ⟨_, rfl⟩⟩
    · exact ⟨.array .boolean, by decide +kernel, fun q => absurd q (by decide), fun q => absurd q (by decide), fun _ => ⟨_, rfl⟩⟩
    · exact ⟨.array .int, by decide +kernel, fun q => absurd q (by decide), fun q => absurd q (by decide), fun _ => ⟨_, rfl⟩⟩
    · exact ⟨.array .int, by decide +kernel, fun q => absurd q (by decide), fun q => absurd q (by decide), fun _ => ⟨_, rfl⟩⟩
    · exact ⟨.array .int, by decide +kernel, fun q => absurd q (by decide), fun q => absurd q (by decide), fun _ => ⟨_, rfl⟩⟩
    · exact ⟨.int, by decide +kernel, fun _ => rfl, fun q => absurd q (by decide), fun q => absurd q (by decide)⟩
    · exact ⟨.int, by decide +kernel, fun _ => rfl, fun q => absurd q (by decide), fun q => absurd q (by decide)⟩
    · exact ⟨.int, by decide +kernel, fun _ => rfl, fun q => absurd q (by decide), fun q => absurd q (by decide)⟩
    · exact ⟨.int, by decide +kernel, fun _ => rfl, fun q => absurd q (by decide), fun q => absurd q (by decide)⟩
    · exact ⟨.int, by decide +kernel, fun _ => rfl, fun q => absurd q (by decide), fun q => absurd q (by decide)⟩
    · exact ⟨.int, by decide +kernel, fun _ => rfl, fun q => absurd q (by decide), fun q => absurd q (by decide)⟩
    · exact ⟨.int, by decide +kernel, fun _ => rfl, fun q => absurd q (by decide), fun q => absurd q (by decide)⟩
    · exact ⟨.int, by decide +kernel, fun _ => rfl, fun q => absurd q (by decide), fun q => absurd q (by decide)⟩
    · exact ⟨.int, by decide +kernel, fun _ => rfl, fun q => absurd q (by decide), fun q => absurd q (by decide)⟩
theorem tabC (hw : WH a0 Z) (mn : String) : Tab Z a0 "ConservativeBiY" "ConservativeBiY" mn fsC flC pflC kIC kJC := by
  refine ⟨fun x hx => ?_, fun x hx => ?_, fun x hx => ?_, fun x hx => ?_⟩
  · simp only [flC, List.mem_cons, List.not_mem_nil, or_false] at hx
    rcases hx with rfl | rfl | rfl | rfl | rfl | rfl | rfl | rfl | rfl | rfl | rfl | rfl | rfl | rfl | rfl | rfl | rfl | rfl | rfl
    · exact ⟨_, _, _, rfl, hw _ (List.mem_of_getElem? (i := 10) rfl)⟩
    · exact ⟨_, _, _, rfl, hw _ (List.mem_of_getElem? (i := 12) rfl)⟩
    · exact ⟨_, _, _, rfl, hw _ (List.mem_of_getElem? (i := 14) rfl)⟩
    · exact ⟨_, _, _, rfl, hw _ (List.mem_of_getElem? (i := 16) rfl)⟩
    · exact ⟨_, _, _, rfl, hw _ (List.mem_of_getElem? (i := 18) rfl)⟩
    · exact ⟨_, _, _, rfl, hw _ (List.mem_of_getElem? (i := 20) rfl)⟩
    · exact ⟨_, _, _, rfl, hw _ (List.mem_of_getElem? (i := 23) rfl)⟩
    · exact ⟨_, _, _, rfl, hw _ (List.mem_of_getElem? (i := 25) rfl)⟩
    · exact ⟨_, _, _, rfl, hw _ (List.mem_of_getElem? (i := 27) rfl)⟩
    · exact ⟨_, _, _, rfl, hw _ (List.mem_of_getElem? (i := 29) rfl)⟩
    · exact ⟨_, _, _, rfl, hw _ (List.mem_of_getElem? (i := 31) rfl)⟩
    · exact ⟨_, _, _, rfl, hw _ (List.mem_of_getElem? (i := 33) rfl)⟩
    · exact ⟨_, _, _, rfl, hw _ (List.mem_of_getElem? (i := 35) rfl)⟩
    · exact ⟨_, _, _, rfl, hw _ (List.mem_of_getElem? (i := 41) rfl)⟩
    · exact ⟨_, _, _, rfl, hw _ (List.mem_of_getElem? (i := 43) rfl)⟩
    · exact ⟨_, _, _, rfl, hw _ (List.mem_of_getElem? (i := 45) rfl)⟩
    · exact ⟨_, _, _, rfl, hw _ (List.mem_of_getElem? (i := 191) rfl)⟩
    · exact ⟨_, _, _, rfl, hw _ (List.mem_of_getElem? (i := 189) rfl)⟩
    · exact ⟨_, _, _, rfl, hw _ (List.mem_of_getElem? (i := 193) rfl)⟩
  · simp only [pflC, List.mem_cons, List.not_mem_nil, or_false] at hx
    rcases hx with rfl | rfl | rfl | rfl | rfl | rfl | rfl | rfl | rfl | rfl | rfl | rfl | rfl | rfl | rfl | rfl | rfl | rfl | rfl
    · exact ⟨_, _, _, rfl, hw _ (List.mem_of_getElem? (i := 10) rfl), Or.inl (hw _ (List.mem_of_getElem? (i := 11) rfl))⟩
    · exact ⟨_, _, _, rfl, hw _ (List.mem_of_getElem? (i := 12) rfl), Or.inl (hw _ (List.mem_of_getElem? (i := 13) rfl))⟩
    · exact ⟨_, _, _, rfl, hw _ (List.mem_of_getElem? (i := 14) rfl), Or.inl (hw _ (List.mem_of_getElem? (i := 15) rfl))⟩
    · exact ⟨_, _, _, rfl, hw _ (List.mem_of_getElem? (i := 16) rfl), Or.inl (hw _ (List.mem_of_getElem? (i := 17) rfl))⟩
    · exact ⟨_, _, _, rfl, hw _ (List.mem_of_getElem? (i := 18) rfl), Or.inl (hw _ (List.mem_of_getElem? (i := 19) rfl))⟩
    · exact ⟨_, _, _, rfl, hw _ (List.mem_of_getElem? (i := 20) rfl), Or.inl (hw _ (List.mem_of_getElem? (i := 21) rfl))⟩
    · exact ⟨_, _, _, rfl, hw _ (List.mem_of_getElem? (i := 23) rfl), Or.inl (hw _ (List.mem_of_getElem? (i := 24) rfl))⟩
    · exact ⟨_, _, _, rfl, hw _ (List.mem_of_getElem? (i := 25) rfl), Or.inl (hw _ (List.mem_of_getElem? (i := 26) rfl))⟩
    · exact ⟨_, _, _, rfl, hw _ (List.mem_of_getElem? (i := 27) rfl), Or.inl (hw _ (List.mem_of_getElem? (i := 28) rfl))⟩
    · exact ⟨_, _, _, rfl, hw _ (List.mem_of_getElem? (i := 29) rfl), Or.inl (hw _ (List.mem_of_getElem? (i := 30) rfl))⟩
    · exact ⟨_, _, _, rfl, hw _ (List.mem_of_getElem? (i := 31) rfl), Or.inl (hw _ (List.mem_of_getElem? (i := 32) rfl))⟩
    · exact ⟨_, _, _, rfl, hw _ (List.mem_of_getElem? (i := 33) rfl), Or.inl (hw _ (List.mem_of_getElem? (i := 34) rfl))⟩
    · exact ⟨_, _, _, rfl, hw _ (List.mem_of_getElem? (i := 35) rfl), Or.inl (hw _ (List.mem_of_getElem? (i := 36) rfl))⟩
    · exact ⟨_, _, _, rfl, hw _ (List.mem_of_getElem? (i := 41) rfl), Or.inl (hw _ (List.mem_of_getElem? (i := 42) rfl))⟩
    · exact ⟨_, _, _, rfl, hw _ (List.mem_of_getElem? (i := 43) rfl), Or.inl (hw _ (List.mem_of_getElem? (i := 44) rfl))⟩
    · exact ⟨_, _, _, rfl, hw _ (List.mem_of_getElem? (i := 45) rfl), Or.inl (hw _ (List.mem_of_getElem? (i := 46) rfl))⟩
    · exact ⟨_, _, _, rfl, hw _ (List.mem_of_getElem? (i := 191) rfl), Or.inl (hw _ (List.mem_of_getElem? (i := 192) rfl))⟩
    · exact ⟨_, _, _, rfl, hw _ (List.mem_of_getElem? (i := 189) rfl), Or.inl (hw _ (List.mem_of_getElem? (i := 190) rfl))⟩
    · exact ⟨_, _, _, rfl, hw _ (List.mem_of_getElem? (i := 193) rfl), Or.inl (hw _ (List.mem_of_getElem? (i := 194) rfl))⟩
  · simp [kIC] at hx
  · simp [kJC] at hx
theorem tabI (hw : WH a0 Z) : Tab Z a0 "ConservativeBiY" "ConservativeBiY" "<init>" fsC flC flC kIC kJC := by
  refine ⟨fun x hx => ?_, fun x hx => ?_, fun x hx => ?_, fun x hx => ?_⟩
  · simp only [flC, List.mem_cons, List.not_mem_nil, or_false] at hx
    rcases hx with rfl | rfl | rfl | rfl | rfl | rfl | rfl | rfl | rfl | rfl | rfl | rfl | rfl | rfl | rfl | rfl | rfl | rfl | rfl
    · exact ⟨_, _, _, rfl, hw _ (List.mem_of_getElem? (i := 10) rfl)⟩
    · exact ⟨_, _, _, rfl, hw _ (List.mem_of_getElem? (i := 12) rfl)⟩
    · exact ⟨_, _, _, rfl, hw _ (List.mem_of_getElem? (i := 14) rfl)⟩
    · exact ⟨_, _, _, rfl, hw _ (List.mem_of_getElem? (i := 16) rfl)⟩
    · exact ⟨_, _, _, rfl, hw _ (List.mem_of_getElem? (i := 18) rfl)⟩
    · exact ⟨_, _, _, rfl, hw _ (List.mem_of_getElem? (i := 20) rfl)⟩
    · exact ⟨_, _, _, rfl, hw _ (List.mem_of_getElem? (i := 23) rfl)⟩
    · exact ⟨_, _, _, rfl, hw _ (List.mem_of_getElem? (i := 25) rfl)⟩
    · exact ⟨_, _, _, rfl, hw _ (List.mem_of_getElem? (i := 27) rfl)⟩
    · exact ⟨_, _, _, rfl, hw _ (List.mem_of_getElem? (i := 29) rfl)⟩
    · exact ⟨_, _, _, rfl, hw _ (List.mem_of_getElem? (i := 31) rfl)⟩
    · exact ⟨_, _, _, rfl, hw _ (List.mem_of_getElem? (i := 33) rfl)⟩
    · exact ⟨_, _, _, rfl, hw _ (List.mem_of_getElem? (i := 35) rfl)⟩
    · exact ⟨_, _, _, rfl, hw _ (List.mem_of_getElem? (i := 41) rfl)⟩
    · exact ⟨_, _, _, rfl, hw _ (List.mem_of_getElem? (i := 43) rfl)⟩
    · exact ⟨_, _, _, rfl, hw _ (List.mem_of_getElem? (i := 45) rfl)⟩
    · exact ⟨_, _, _, rfl, hw _ (List.mem_of_getElem? (i := 191) rfl)⟩
    · exact ⟨_, _, _, rfl, hw _ (List.mem_of_getElem? (i := 189) rfl)⟩
    · exact ⟨_, _, _, rfl, hw _ (List.mem_of_getElem? (i := 193) rfl)⟩
  · simp only [flC, List.mem_cons, List.not_mem_nil, or_false] at hx
    rcases hx with rfl | rfl | rfl | rfl | rfl | rfl | rfl | rfl | rfl | rfl | rfl | rfl | rfl | rfl | rfl | rfl | rfl | rfl | rfl
    · exact ⟨_, _, _, rfl, hw _ (List.mem_of_getElem? (i := 10) rfl), Or.inl (hw _ (List.mem_of_getElem? (i := 11) rfl))⟩
    · exact ⟨_, _, _, rfl, hw _ (List.mem_of_getElem? (i := 12) rfl), Or.inl (hw _ (List.mem_of_getElem? (i := 13) rfl))⟩
    · exact ⟨_, _, _, rfl, hw _ (List.mem_of_getElem? (i := 14) rfl), Or.inl (hw _ (List.mem_of_getElem? (i := 15) rfl))⟩
    · exact ⟨_, _, _, rfl, hw _ (List.mem_of_getElem? (i := 16) rfl), Or.inl (hw _ (List.mem_of_getElem? (i := 17) rfl))⟩
    · exact ⟨_, _, _, rfl, hw _ (List.mem_of_getElem? (i := 18) rfl), Or.inl (hw _ (List.mem_of_getElem? (i := 19) rfl))⟩
    · exact ⟨_, _, _, rfl, hw _ (List.mem_of_getElem? (i := 20) rfl), Or.inl (hw _ (List.mem_of_getElem? (i := 21) rfl))⟩
    · exact ⟨_, _, _, rfl, hw _ (List.mem_of_getElem? (i := 23) rfl), Or.inl (hw _ (List.mem_of_getElem? (i := 24) rfl))⟩
    · exact ⟨_, _, _, rfl, hw _ (List.mem_of_getElem? (i := 25) rfl), Or.inl (hw _ (List.mem_of_getElem? (i := 26) rfl))⟩
    · exact ⟨_, _, _, rfl, hw _ (List.mem_of_getElem? (i := 27) rfl), Or.inl (hw _ (List.mem_of_getElem? (i := 28) rfl))⟩
    · exact ⟨_, _, _, rfl, hw _ (List.mem_of_getElem? (i := 29) rfl), Or.inl (hw _ (List.mem_of_getElem? (i := 30) rfl))⟩
    · exact ⟨_, _, _, rfl, hw _ (List.mem_of_getElem? (i := 31) rfl), Or.inl (hw _ (List.mem_of_getElem? (i := 32) rfl))⟩
    · exact ⟨_, _, _, rfl, hw _ (List.mem_of_getElem? (i := 33) rfl), Or.inl (hw _ (List.mem_of_getElem? (i := 34) rfl))⟩
    · exact ⟨_, _, _, rfl, hw _ (List.mem_of_getElem? (i := 35) rfl), Or.inl (hw _ (List.mem_of_getElem? (i := 36) rfl))⟩
    · exact ⟨_, _, _, rfl, hw _ (List.mem_of_getElem? (i := 41) rfl), Or.inl (hw _ (List.mem_of_getElem? (i := 42) rfl))⟩
    · exact ⟨_, _, _, rfl, hw _ (List.mem_of_getElem? (i := 43) rfl), Or.inl (hw _ (List.mem_of_getElem? (i := 44) rfl))⟩
    · exact ⟨_, _, _, rfl, hw _ (List.mem_of_getElem? (i := 45) rfl), Or.inl (hw _ (List.mem_of_getElem? (i := 46) rfl))⟩
    · exact ⟨_, _, _, rfl, hw _ (List.mem_of_getElem? (i := 191) rfl), Or.inl (hw _ (List.mem_of_getElem? (i := 192) rfl))⟩
    · exact ⟨_, _, _, rfl, hw _ (List.mem_of_getElem? (i := 189) rfl), Or.inl (hw _ (List.mem_of_getElem? (i := 190) rfl))⟩
    · exact ⟨_, _, _, rfl, hw _ (List.mem_of_getElem? (i := 193) rfl), Or.inl (hw _ (List.mem_of_getElem? (i := 194) rfl))⟩
  · simp [kIC] at hx
  · simp [kJC] at hx
theorem tabL (hw : WH a0 Z) (mn : String) : Tab Z a0 "ConservativeBiY" "ConservativeBiYL7" mn fsC [] [] kIL kJL := by
  refine ⟨fun x hx => ?_, fun x hx => ?_, fun x hx => ?_, fun x hx => ?_⟩
  · cases hx
  · cases hx
  · simp [kIL] at hx
  · simp only [kJL, List.mem_cons, List.not_mem_nil, or_false] at hx
    rcases hx with rfl
    · exact hw _ (List.mem_of_getElem? (i := 59) rfl)
theorem lk_L_9 (hw : WH a0 Z) : LkI Z a0 "ConservativeBiYL7" 9 (⟨"ConservativeBiY", "<init>", "(II)V"⟩ : MethodName) prog_1_method_1_code 5 := ⟨hw _ (List.mem_of_getElem? (i := 3) rfl), hw _ (List.mem_of_getElem? (i := 4) rfl), hw _ (List.mem_of_getElem? (i := 5) rfl), hw _ (List.mem_of_getElem? (i := 2) rfl), by unfold notMH; decide, rfl⟩
theorem lk_C_51 (hw : WH a0 Z) : LkP Z a0 "ConservativeBiY" 51 (⟨"ConservativeBiY", "validPageMask", "()I"⟩ : MethodName) prog_1_method_15_code 1 (some .int) := ⟨hw _ (List.mem_of_getElem? (i := 37) rfl), hw _ (List.mem_of_getElem? (i := 38) rfl), hw _ (List.mem_of_getElem? (i := 40) rfl), hw _ (List.mem_of_getElem? (i := 2) rfl), by unfold notMH; decide, hw _ (List.mem_of_getElem? (i := 39) rfl)⟩
theorem lk_L_12 (hw : WH a0 Z) : LkS Z a0 "ConservativeBiYL7" 12 (⟨"ConservativeBiYL7", "word", "(I)I"⟩ : MethodName) method_4_code 1 (some .int) := ⟨hw _ (List.mem_of_getElem? (i := 47) rfl), hw _ (List.mem_of_getElem? (i := 48) rfl), hw _ (List.mem_of_getElem? (i := 50) rfl), hw _ (List.mem_of_getElem? (i := 49) rfl), by unfold notMH; decide⟩
theorem lk_L_18 (hw : WH a0 Z) : LkS Z a0 "ConservativeBiYL7" 18 (⟨"ConservativeBiYL7", "fp", "(LConservativeBiY;)J"⟩ : MethodName) method_3_code 4 (some .long) := ⟨hw _ (List.mem_of_getElem? (i := 51) rfl), hw _ (List.mem_of_getElem? (i := 52) rfl), hw _ (List.mem_of_getElem? (i := 53) rfl), hw _ (List.mem_of_getElem? (i := 49) rfl), by unfold notMH; decide⟩
theorem lk_L_25 (hw : WH a0 Z) : LkV Z a0 "ConservativeBiYL7" 25 (⟨"ConservativeBiY", "rootDepth", "()I"⟩ : MethodName) prog_1_method_6_code 1 (some .int) := ⟨hw _ (List.mem_of_getElem? (i := 54) rfl), hw _ (List.mem_of_getElem? (i := 56) rfl), hw _ (List.mem_of_getElem? (i := 58) rfl), hw _ (List.mem_of_getElem? (i := 2) rfl), by unfold notMH; decide, hw _ (List.mem_of_getElem? (i := 55) rfl), hw _ (List.mem_of_getElem? (i := 57) rfl)⟩
theorem lk_L_50 (hw : WH a0 Z) : LkV Z a0 "ConservativeBiYL7" 50 (⟨"ConservativeBiY", "getRoot", "(I)I"⟩ : MethodName) prog_1_method_5_code 2 (some .int) := ⟨hw _ (List.mem_of_getElem? (i := 60) rfl), hw _ (List.mem_of_getElem? (i := 62) rfl), hw _ (List.mem_of_getElem? (i := 64) rfl), hw _ (List.mem_of_getElem? (i := 2) rfl), by unfold notMH; decide, hw _ (List.mem_of_getElem? (i := 61) rfl), hw _ (List.mem_of_getElem? (i := 63) rfl)⟩
theorem lk_C_64 (hw : WH a0 Z) : LkP Z a0 "ConservativeBiY" 64 (⟨"ConservativeBiY", "rootIndexValid", "(I)Z"⟩ : MethodName) prog_1_method_7_code 2 (some .boolean) := ⟨hw _ (List.mem_of_getElem? (i := 65) rfl), hw _ (List.mem_of_getElem? (i := 66) rfl), hw _ (List.mem_of_getElem? (i := 68) rfl), hw _ (List.mem_of_getElem? (i := 2) rfl), by unfold notMH; decide, hw _ (List.mem_of_getElem? (i := 67) rfl)⟩
theorem lk_L_53 (hw : WH a0 Z) : LkV Z a0 "ConservativeBiYL7" 53 (⟨"ConservativeBiY", "load", "(I)I"⟩ : MethodName) prog_1_method_18_code 4 (some .int) := ⟨hw _ (List.mem_of_getElem? (i := 69) rfl), hw _ (List.mem_of_getElem? (i := 71) rfl), hw _ (List.mem_of_getElem? (i := 73) rfl), hw _ (List.mem_of_getElem? (i := 2) rfl), by unfold notMH; decide, hw _ (List.mem_of_getElem? (i := 70) rfl), hw _ (List.mem_of_getElem? (i := 72) rfl)⟩
theorem lk_C_99 (hw : WH a0 Z) : LkP Z a0 "ConservativeBiY" 99 (⟨"ConservativeBiY", "findStart", "(I)I"⟩ : MethodName) prog_1_method_23_code 4 (some .int) := ⟨hw _ (List.mem_of_getElem? (i := 74) rfl), hw _ (List.mem_of_getElem? (i := 75) rfl), hw _ (List.mem_of_getElem? (i := 77) rfl), hw _ (List.mem_of_getElem? (i := 2) rfl), by unfold notMH; decide, hw _ (List.mem_of_getElem? (i := 76) rfl)⟩
theorem lk_C_102 (hw : WH a0 Z) : LkP Z a0 "ConservativeBiY" 102 (⟨"ConservativeBiY", "pageOf", "(I)I"⟩ : MethodName) prog_1_method_19_code 3 (some .int) := ⟨hw _ (List.mem_of_getElem? (i := 78) rfl), hw _ (List.mem_of_getElem? (i := 79) rfl), hw _ (List.mem_of_getElem? (i := 81) rfl), hw _ (List.mem_of_getElem? (i := 2) rfl), by unfold notMH; decide, hw _ (List.mem_of_getElem? (i := 80) rfl)⟩
theorem lk_L_56 (hw : WH a0 Z) : LkV Z a0 "ConservativeBiYL7" 56 (⟨"ConservativeBiY", "objectStart", "(I)I"⟩ : MethodName) prog_1_method_33_code 2 (some .int) := ⟨hw _ (List.mem_of_getElem? (i := 82) rfl), hw _ (List.mem_of_getElem? (i := 84) rfl), hw _ (List.mem_of_getElem? (i := 86) rfl), hw _ (List.mem_of_getElem? (i := 2) rfl), by unfold notMH; decide, hw _ (List.mem_of_getElem? (i := 83) rfl), hw _ (List.mem_of_getElem? (i := 85) rfl)⟩
theorem lk_L_59 (hw : WH a0 Z) : LkV Z a0 "ConservativeBiYL7" 59 (⟨"ConservativeBiY", "objectSize", "(I)I"⟩ : MethodName) prog_1_method_34_code 4 (some .int) := ⟨hw _ (List.mem_of_getElem? (i := 87) rfl), hw _ (List.mem_of_getElem? (i := 89) rfl), hw _ (List.mem_of_getElem? (i := 91) rfl), hw _ (List.mem_of_getElem? (i := 2) rfl), by unfold notMH; decide, hw _ (List.mem_of_getElem? (i := 88) rfl), hw _ (List.mem_of_getElem? (i := 90) rfl)⟩
theorem lk_L_62 (hw : WH a0 Z) : LkV Z a0 "ConservativeBiYL7" 62 (⟨"ConservativeBiY", "pageClass", "(I)I"⟩ : MethodName) prog_1_method_35_code 2 (some .int) := ⟨hw _ (List.mem_of_getElem? (i := 92) rfl), hw _ (List.mem_of_getElem? (i := 94) rfl), hw _ (List.mem_of_getElem? (i := 96) rfl), hw _ (List.mem_of_getElem? (i := 2) rfl), by unfold notMH; decide, hw _ (List.mem_of_getElem? (i := 93) rfl), hw _ (List.mem_of_getElem? (i := 95) rfl)⟩
theorem lk_C_149 (hw : WH a0 Z) : LkP Z a0 "ConservativeBiY" 149 (⟨"ConservativeBiY", "pageValid", "(I)Z"⟩ : MethodName) prog_1_method_39_code 2 (some .boolean) := ⟨hw _ (List.mem_of_getElem? (i := 97) rfl), hw _ (List.mem_of_getElem? (i := 98) rfl), hw _ (List.mem_of_getElem? (i := 100) rfl), hw _ (List.mem_of_getElem? (i := 2) rfl), by unfold notMH; decide, hw _ (List.mem_of_getElem? (i := 99) rfl)⟩
theorem lk_L_65 (hw : WH a0 Z) : LkV Z a0 "ConservativeBiYL7" 65 (⟨"ConservativeBiY", "pageLiveCount", "(I)I"⟩ : MethodName) prog_1_method_36_code 2 (some .int) := ⟨hw _ (List.mem_of_getElem? (i := 101) rfl), hw _ (List.mem_of_getElem? (i := 103) rfl), hw _ (List.mem_of_getElem? (i := 105) rfl), hw _ (List.mem_of_getElem? (i := 2) rfl), by unfold notMH; decide, hw _ (List.mem_of_getElem? (i := 102) rfl), hw _ (List.mem_of_getElem? (i := 104) rfl)⟩
theorem lk_L_68 (hw : WH a0 Z) : LkV Z a0 "ConservativeBiYL7" 68 (⟨"ConservativeBiY", "isBlacklisted", "(I)Z"⟩ : MethodName) prog_1_method_37_code 2 (some .boolean) := ⟨hw _ (List.mem_of_getElem? (i := 106) rfl), hw _ (List.mem_of_getElem? (i := 108) rfl), hw _ (List.mem_of_getElem? (i := 110) rfl), hw _ (List.mem_of_getElem? (i := 2) rfl), by unfold notMH; decide, hw _ (List.mem_of_getElem? (i := 107) rfl), hw _ (List.mem_of_getElem? (i := 109) rfl)⟩
theorem lk_L_45 (hw : WH a0 Z) : LkV Z a0 "ConservativeBiYL7" 45 (⟨"ConservativeBiY", "liveObjects", "()I"⟩ : MethodName) prog_1_method_38_code 1 (some .int) := ⟨hw _ (List.mem_of_getElem? (i := 111) rfl), hw _ (List.mem_of_getElem? (i := 113) rfl), hw _ (List.mem_of_getElem? (i := 115) rfl), hw _ (List.mem_of_getElem? (i := 2) rfl), by unfold notMH; decide, hw _ (List.mem_of_getElem? (i := 112) rfl), hw _ (List.mem_of_getElem? (i := 114) rfl)⟩
theorem lk_L_36 (hw : WH a0 Z) : LkV Z a0 "ConservativeBiYL7" 36 (⟨"ConservativeBiY", "alloc", "(I)I"⟩ : MethodName) prog_1_method_8_code 4 (some .int) := ⟨hw _ (List.mem_of_getElem? (i := 116) rfl), hw _ (List.mem_of_getElem? (i := 118) rfl), hw _ (List.mem_of_getElem? (i := 120) rfl), hw _ (List.mem_of_getElem? (i := 2) rfl), by unfold notMH; decide, hw _ (List.mem_of_getElem? (i := 117) rfl), hw _ (List.mem_of_getElem? (i := 119) rfl)⟩
theorem lk_C_68 (hw : WH a0 Z) : LkP Z a0 "ConservativeBiY" 68 (⟨"ConservativeBiY", "classIndexFor", "(I)I"⟩ : MethodName) prog_1_method_13_code 3 (some .int) := ⟨hw _ (List.mem_of_getElem? (i := 121) rfl), hw _ (List.mem_of_getElem? (i := 122) rfl), hw _ (List.mem_of_getElem? (i := 124) rfl), hw _ (List.mem_of_getElem? (i := 2) rfl), by unfold notMH; decide, hw _ (List.mem_of_getElem? (i := 123) rfl)⟩
theorem lk_C_72 (hw : WH a0 Z) : LkP Z a0 "ConservativeBiY" 72 (⟨"ConservativeBiY", "allocInClassPage", "(I)I"⟩ : MethodName) prog_1_method_9_code 6 (some .int) := ⟨hw _ (List.mem_of_getElem? (i := 125) rfl), hw _ (List.mem_of_getElem? (i := 126) rfl), hw _ (List.mem_of_getElem? (i := 128) rfl), hw _ (List.mem_of_getElem? (i := 2) rfl), by unfold notMH; decide, hw _ (List.mem_of_getElem? (i := 127) rfl)⟩
theorem lk_C_78 (hw : WH a0 Z) : LkP Z a0 "ConservativeBiY" 78 (⟨"ConservativeBiY", "lowestBit", "(I)I"⟩ : MethodName) prog_1_method_40_code 3 (some .int) := ⟨hw _ (List.mem_of_getElem? (i := 129) rfl), hw _ (List.mem_of_getElem? (i := 130) rfl), hw _ (List.mem_of_getElem? (i := 132) rfl), hw _ (List.mem_of_getElem? (i := 2) rfl), by unfold notMH; decide, hw _ (List.mem_of_getElem? (i := 131) rfl)⟩
theorem lk_C_75 (hw : WH a0 Z) : LkP Z a0 "ConservativeBiY" 75 (⟨"ConservativeBiY", "allocInFreshPage", "(I)I"⟩ : MethodName) prog_1_method_10_code 4 (some .int) := ⟨hw _ (List.mem_of_getElem? (i := 133) rfl), hw _ (List.mem_of_getElem? (i := 134) rfl), hw _ (List.mem_of_getElem? (i := 136) rfl), hw _ (List.mem_of_getElem? (i := 2) rfl), by unfold notMH; decide, hw _ (List.mem_of_getElem? (i := 135) rfl)⟩
theorem lk_C_84 (hw : WH a0 Z) : LkP Z a0 "ConservativeBiY" 84 (⟨"ConservativeBiY", "placeObject", "(II)I"⟩ : MethodName) prog_1_method_11_code 5 (some .int) := ⟨hw _ (List.mem_of_getElem? (i := 137) rfl), hw _ (List.mem_of_getElem? (i := 138) rfl), hw _ (List.mem_of_getElem? (i := 140) rfl), hw _ (List.mem_of_getElem? (i := 2) rfl), by unfold notMH; decide, hw _ (List.mem_of_getElem? (i := 139) rfl)⟩
theorem lk_C_88 (hw : WH a0 Z) : LkP Z a0 "ConservativeBiY" 88 (⟨"ConservativeBiY", "slotStart", "(II)I"⟩ : MethodName) prog_1_method_21_code 3 (some .int) := ⟨hw _ (List.mem_of_getElem? (i := 141) rfl), hw _ (List.mem_of_getElem? (i := 142) rfl), hw _ (List.mem_of_getElem? (i := 144) rfl), hw _ (List.mem_of_getElem? (i := 2) rfl), by unfold notMH; decide, hw _ (List.mem_of_getElem? (i := 143) rfl)⟩
theorem lk_C_91 (hw : WH a0 Z) : LkP Z a0 "ConservativeBiY" 91 (⟨"ConservativeBiY", "clearWords", "(II)V"⟩ : MethodName) prog_1_method_12_code 6 none := ⟨hw _ (List.mem_of_getElem? (i := 145) rfl), hw _ (List.mem_of_getElem? (i := 146) rfl), hw _ (List.mem_of_getElem? (i := 148) rfl), hw _ (List.mem_of_getElem? (i := 2) rfl), by unfold notMH; decide, hw _ (List.mem_of_getElem? (i := 147) rfl)⟩
theorem lk_C_95 (hw : WH a0 Z) : LkP Z a0 "ConservativeBiY" 95 (⟨"ConservativeBiY", "refreshPage", "(I)V"⟩ : MethodName) prog_1_method_16_code 5 none := ⟨hw _ (List.mem_of_getElem? (i := 149) rfl), hw _ (List.mem_of_getElem? (i := 150) rfl), hw _ (List.mem_of_getElem? (i := 152) rfl), hw _ (List.mem_of_getElem? (i := 2) rfl), by unfold notMH; decide, hw _ (List.mem_of_getElem? (i := 151) rfl)⟩
theorem lk_C_81 (hw : WH a0 Z) : LkP Z a0 "ConservativeBiY" 81 (⟨"ConservativeBiY", "slotMaskFor", "(I)I"⟩ : MethodName) prog_1_method_14_code 3 (some .int) := ⟨hw _ (List.mem_of_getElem? (i := 153) rfl), hw _ (List.mem_of_getElem? (i := 154) rfl), hw _ (List.mem_of_getElem? (i := 156) rfl), hw _ (List.mem_of_getElem? (i := 2) rfl), by unfold notMH; decide, hw _ (List.mem_of_getElem? (i := 155) rfl)⟩
theorem lk_C_105 (hw : WH a0 Z) : LkP Z a0 "ConservativeBiY" 105 (⟨"ConservativeBiY", "slotOf", "(II)I"⟩ : MethodName) prog_1_method_20_code 4 (some .int) := ⟨hw _ (List.mem_of_getElem? (i := 157) rfl), hw _ (List.mem_of_getElem? (i := 158) rfl), hw _ (List.mem_of_getElem? (i := 160) rfl), hw _ (List.mem_of_getElem? (i := 2) rfl), by unfold notMH; decide, hw _ (List.mem_of_getElem? (i := 159) rfl)⟩
theorem lk_C_108 (hw : WH a0 Z) : LkP Z a0 "ConservativeBiY" 108 (⟨"ConservativeBiY", "slotLive", "(II)Z"⟩ : MethodName) prog_1_method_22_code 3 (some .boolean) := ⟨hw _ (List.mem_of_getElem? (i := 161) rfl), hw _ (List.mem_of_getElem? (i := 162) rfl), hw _ (List.mem_of_getElem? (i := 164) rfl), hw _ (List.mem_of_getElem? (i := 2) rfl), by unfold notMH; decide, hw _ (List.mem_of_getElem? (i := 163) rfl)⟩
theorem lk_L_22 (hw : WH a0 Z) : LkV Z a0 "ConservativeBiYL7" 22 (⟨"ConservativeBiY", "pushRoot", "(I)I"⟩ : MethodName) prog_1_method_2_code 2 (some .int) := ⟨hw _ (List.mem_of_getElem? (i := 165) rfl), hw _ (List.mem_of_getElem? (i := 167) rfl), hw _ (List.mem_of_getElem? (i := 169) rfl), hw _ (List.mem_of_getElem? (i := 2) rfl), by unfold notMH; decide, hw _ (List.mem_of_getElem? (i := 166) rfl), hw _ (List.mem_of_getElem? (i := 168) rfl)⟩
theorem lk_L_32 (hw : WH a0 Z) : LkV Z a0 "ConservativeBiYL7" 32 (⟨"ConservativeBiY", "setRoot", "(II)Z"⟩ : MethodName) prog_1_method_4_code 3 (some .boolean) := ⟨hw _ (List.mem_of_getElem? (i := 170) rfl), hw _ (List.mem_of_getElem? (i := 172) rfl), hw _ (List.mem_of_getElem? (i := 174) rfl), hw _ (List.mem_of_getElem? (i := 2) rfl), by unfold notMH; decide, hw _ (List.mem_of_getElem? (i := 171) rfl), hw _ (List.mem_of_getElem? (i := 173) rfl)⟩
theorem lk_L_29 (hw : WH a0 Z) : LkV Z a0 "ConservativeBiYL7" 29 (⟨"ConservativeBiY", "popRoot", "()I"⟩ : MethodName) prog_1_method_3_code 1 (some .int) := ⟨hw _ (List.mem_of_getElem? (i := 175) rfl), hw _ (List.mem_of_getElem? (i := 177) rfl), hw _ (List.mem_of_getElem? (i := 179) rfl), hw _ (List.mem_of_getElem? (i := 2) rfl), by unfold notMH; decide, hw _ (List.mem_of_getElem? (i := 176) rfl), hw _ (List.mem_of_getElem? (i := 178) rfl)⟩
theorem lk_L_42 (hw : WH a0 Z) : LkV Z a0 "ConservativeBiYL7" 42 (⟨"ConservativeBiY", "collect", "()I"⟩ : MethodName) prog_1_method_24_code 2 (some .int) := ⟨hw _ (List.mem_of_getElem? (i := 180) rfl), hw _ (List.mem_of_getElem? (i := 182) rfl), hw _ (List.mem_of_getElem? (i := 184) rfl), hw _ (List.mem_of_getElem? (i := 2) rfl), by unfold notMH; decide, hw _ (List.mem_of_getElem? (i := 181) rfl), hw _ (List.mem_of_getElem? (i := 183) rfl)⟩
theorem lk_C_112 (hw : WH a0 Z) : LkP Z a0 "ConservativeBiY" 112 (⟨"ConservativeBiY", "beginMark", "()V"⟩ : MethodName) prog_1_method_25_code 2 none := ⟨hw _ (List.mem_of_getElem? (i := 185) rfl), hw _ (List.mem_of_getElem? (i := 186) rfl), hw _ (List.mem_of_getElem? (i := 188) rfl), hw _ (List.mem_of_getElem? (i := 2) rfl), by unfold notMH; decide, hw _ (List.mem_of_getElem? (i := 187) rfl)⟩
theorem lk_C_115 (hw : WH a0 Z) : LkP Z a0 "ConservativeBiY" 115 (⟨"ConservativeBiY", "markRoots", "()V"⟩ : MethodName) prog_1_method_26_code 2 none := ⟨hw _ (List.mem_of_getElem? (i := 195) rfl), hw _ (List.mem_of_getElem? (i := 196) rfl), hw _ (List.mem_of_getElem? (i := 198) rfl), hw _ (List.mem_of_getElem? (i := 2) rfl), by unfold notMH; decide, hw _ (List.mem_of_getElem? (i := 197) rfl)⟩
theorem lk_C_133 (hw : WH a0 Z) : LkP Z a0 "ConservativeBiY" 133 (⟨"ConservativeBiY", "scanWord", "(I)V"⟩ : MethodName) prog_1_method_29_code 5 none := ⟨hw _ (List.mem_of_getElem? (i := 199) rfl), hw _ (List.mem_of_getElem? (i := 200) rfl), hw _ (List.mem_of_getElem? (i := 202) rfl), hw _ (List.mem_of_getElem? (i := 2) rfl), by unfold notMH; decide, hw _ (List.mem_of_getElem? (i := 201) rfl)⟩
theorem lk_C_139 (hw : WH a0 Z) : LkP Z a0 "ConservativeBiY" 139 (⟨"ConservativeBiY", "markObject", "(III)V"⟩ : MethodName) prog_1_method_30_code 5 none := ⟨hw _ (List.mem_of_getElem? (i := 203) rfl), hw _ (List.mem_of_getElem? (i := 204) rfl), hw _ (List.mem_of_getElem? (i := 206) rfl), hw _ (List.mem_of_getElem? (i := 2) rfl), by unfold notMH; decide, hw _ (List.mem_of_getElem? (i := 205) rfl)⟩
theorem lk_C_118 (hw : WH a0 Z) : LkP Z a0 "ConservativeBiY" 118 (⟨"ConservativeBiY", "drainMarkStack", "()V"⟩ : MethodName) prog_1_method_27_code 3 none := ⟨hw _ (List.mem_of_getElem? (i := 207) rfl), hw _ (List.mem_of_getElem? (i := 208) rfl), hw _ (List.mem_of_getElem? (i := 210) rfl), hw _ (List.mem_of_getElem? (i := 2) rfl), by unfold notMH; decide, hw _ (List.mem_of_getElem? (i := 209) rfl)⟩
theorem lk_C_136 (hw : WH a0 Z) : LkP Z a0 "ConservativeBiY" 136 (⟨"ConservativeBiY", "scanFields", "(I)V"⟩ : MethodName) prog_1_method_28_code 7 none := ⟨hw _ (List.mem_of_getElem? (i := 211) rfl), hw _ (List.mem_of_getElem? (i := 212) rfl), hw _ (List.mem_of_getElem? (i := 214) rfl), hw _ (List.mem_of_getElem? (i := 2) rfl), by unfold notMH; decide, hw _ (List.mem_of_getElem? (i := 213) rfl)⟩
theorem lk_C_124 (hw : WH a0 Z) : LkP Z a0 "ConservativeBiY" 124 (⟨"ConservativeBiY", "sweepAll", "()V"⟩ : MethodName) prog_1_method_31_code 2 none := ⟨hw _ (List.mem_of_getElem? (i := 215) rfl), hw _ (List.mem_of_getElem? (i := 216) rfl), hw _ (List.mem_of_getElem? (i := 218) rfl), hw _ (List.mem_of_getElem? (i := 2) rfl), by unfold notMH; decide, hw _ (List.mem_of_getElem? (i := 217) rfl)⟩
theorem lk_C_143 (hw : WH a0 Z) : LkP Z a0 "ConservativeBiY" 143 (⟨"ConservativeBiY", "sweepPage", "(I)V"⟩ : MethodName) prog_1_method_32_code 4 none := ⟨hw _ (List.mem_of_getElem? (i := 219) rfl), hw _ (List.mem_of_getElem? (i := 220) rfl), hw _ (List.mem_of_getElem? (i := 222) rfl), hw _ (List.mem_of_getElem? (i := 2) rfl), by unfold notMH; decide, hw _ (List.mem_of_getElem? (i := 221) rfl)⟩
theorem lk_C_146 (hw : WH a0 Z) : LkP Z a0 "ConservativeBiY" 146 (⟨"ConservativeBiY", "bitCount", "(I)I"⟩ : MethodName) prog_1_method_41_code 4 (some .int) := ⟨hw _ (List.mem_of_getElem? (i := 223) rfl), hw _ (List.mem_of_getElem? (i := 224) rfl), hw _ (List.mem_of_getElem? (i := 226) rfl), hw _ (List.mem_of_getElem? (i := 2) rfl), by unfold notMH; decide, hw _ (List.mem_of_getElem? (i := 225) rfl)⟩
theorem lk_L_39 (hw : WH a0 Z) : LkV Z a0 "ConservativeBiYL7" 39 (⟨"ConservativeBiY", "store", "(II)Z"⟩ : MethodName) prog_1_method_17_code 5 (some .boolean) := ⟨hw _ (List.mem_of_getElem? (i := 227) rfl), hw _ (List.mem_of_getElem? (i := 229) rfl), hw _ (List.mem_of_getElem? (i := 231) rfl), hw _ (List.mem_of_getElem? (i := 2) rfl), by unfold notMH; decide, hw _ (List.mem_of_getElem? (i := 228) rfl), hw _ (List.mem_of_getElem? (i := 230) rfl)⟩
end Words
section Walk
variable {p : Program} {l : Launch} {e : Env} {s : State} {m : MethodId} {args : Array Value} {below : List Frame} {meth : Method} {c : Code} {Z : State} {a0 : Array Value} {n0 : Nat} {h0 : Heap} {A A0 : Nat → Addr} {w w0 : Nat → Option CD} {sn : Nat} {sf : Nat → Int32}
abbrev rm_c_validPageMask : Room := { frames := 0, cells := 0, slots := 0, locals := 0 }
def c_validPageMask (σ : Sg) : Option (Int32 × Sg) :=
  some (((1 : Int32) <<< ((gi σ 0 10) &&& 31)) - (1 : Int32), σ)
set_option maxRecDepth 65536 in
set_option maxHeartbeats 4000000 in
theorem ok_c_validPageMask (hw : WH a0 Z) (σ : Sg) : ∀ x, c_validPageMask σ = some x → Con l Z "ConservativeBiY" fsC (⟨"ConservativeBiY", "validPageMask", "()I"⟩ : MethodName) prog_1_method_15_code 1 (some .int) rm_c_validPageMask wC [.ref 0] σ (fI x).1 (fI x).2 := by
  refine am_con pnC ?_
  intro p e s m below meth c A n0 h0 hc
  have hT := tabC hw "validPageMask"
  have hF := fsokC hw
  have wi := wiC hw
  unfold c_validPageMask
  refine am_blk (pc' := 8) (Ls' := [.val (.ref 0)]) (St' := [.int (((1 : Int32) <<< ((gi σ 0 10) &&& 31)) - (1 : Int32))]) (σ' := σ) [.iconst 1, .aload_n 0, .getfield 41, .ishl, .iconst 1, .isub] (by decide +kernel) hc hT hF wi (by exact rfl) ?_
  exact am_retI (by decide +kernel) hc (by decide) (by decide) (fun h W O => ⟨rfl, W, O⟩)
abbrev rm_c_init : Room := { frames := 1, cells := 10, slots := 645, locals := 13 }
def c_init_131 (x4 : Int32) (σ : Sg) : Option Sg :=
  (c_validPageMask (si (si σ 0 11 x4) 0 12 (0 : Int32))).bind fun r1 => some (si (si (si r1.2 0 13 r1.1) 0 14 (0 : Int32)) 0 15 (0 : Int32))
set_option maxRecDepth 65536 in
set_option maxHeartbeats 4000000 in
theorem okc_c_init_131 (hw : WH a0 Z) (hc : Cx p s m meth c Z "ConservativeBiY" prog_1_method_1_code 5 none "<init>") (hAE10 : AE h0 A0 A 10) (x4 : Int32) (σ : Sg) : OkR p l e rm_c_init s m args below meth c Z "ConservativeBiY" fsC n0 h0 (FI Z "ConservativeBiY" fsC arrsC A0 h0) A (wK arrsC 10 10) 10 645 131 [.val (.ref 0), .unset, .unset, .unset, .val (.int x4)] [] σ (c_init_131 x4 σ) := by
  have hT := tabI hw
  have hF := fsokC hw
  have wi := wiC hw
  unfold c_init_131
  refine am_blk (pc' := 144) (Ls' := [.val (.ref 0), .unset, .unset, .unset, .val (.int x4)]) (St' := [.ref 0, .ref 0]) (σ' := si (si σ 0 11 x4) 0 12 (0 : Int32)) [.aload_n 0, .iload 4, .putfield 45, .aload_n 0, .iconst 0, .putfield 48, .aload_n 0, .aload_n 0] (by decide +kernel) hc hT hF wi (by exact rfl) ?_
  refine am_callP_I (W0 := 1) (argsL := []) (rest := [.ref 0]) rfl (lk_C_51 hw) rfl wi (by decide +kernel) hc (SubW.refl _) rfl (by show arity "()I" 0 = true; decide +kernel) (ok_c_validPageMask hw _) rfl ⟨by decide, by decide, Nat.le_of_eq rfl, rfl, rfl, by decide, by decide⟩ (fun r1 hr => ?_)
  refine am_blk (pc' := 160) (Ls' := [.val (.ref 0), .unset, .unset, .unset, .val (.int x4)]) (St' := []) (σ' := si (si (si r1.2 0 13 r1.1) 0 14 (0 : Int32)) 0 15 (0 : Int32)) [.putfield 55, .aload_n 0, .iconst 0, .putfield 58, .aload_n 0, .iconst 0, .putfield 61] (by decide +kernel) hc hT hF wi (by exact rfl) ?_
  exact am_retV (by decide +kernel) hc (by decide) (by decide) (fun h W O => FI_of hAE10 h W O)
def c_init_120 (x4 : Int32) (σ : Sg) : Option Sg :=
  if (32 : Int32) < x4 then (c_init_131 (32 : Int32) σ) else (c_init_131 x4 σ)
set_option maxRecDepth 65536 in
set_option maxHeartbeats 4000000 in
theorem okc_c_init_120 (hw : WH a0 Z) (hc : Cx p s m meth c Z "ConservativeBiY" prog_1_method_1_code 5 none "<init>") (hAE10 : AE h0 A0 A 10) (x4 : Int32) (σ : Sg) : OkR p l e rm_c_init s m args below meth c Z "ConservativeBiY" fsC n0 h0 (FI Z "ConservativeBiY" fsC arrsC A0 h0) A (wK arrsC 10 10) 10 645 120 [.val (.ref 0), .unset, .unset, .unset, .val (.int x4)] [] σ (c_init_120 x4 σ) := by
  have hT := tabI hw
  have hF := fsokC hw
  have wi := wiC hw
  unfold c_init_120
  refine am_blk (pc' := 124) (Ls' := [.val (.ref 0), .unset, .unset, .unset, .val (.int x4)]) (St' := [.int (32 : Int32), .int x4]) (σ' := σ) [.iload 4, .bipush 32] (by decide +kernel) hc hT hF wi (by exact rfl) ?_
  refine am_icmp_le (o := 7) (pc1 := 131) (by decide +kernel) hc (fun hq => ?_) (fun hq => ?_)
  · refine am_blk (pc' := 131) (Ls' := [.val (.ref 0), .unset, .unset, .unset, .val (.int (32 : Int32))]) (St' := []) (σ' := σ) [.bipush 32, .istore 4] (by decide +kernel) hc hT hF wi (by exact rfl) ?_
    exact am_wk (Ls' := [.val (.ref 0), .unset, .unset, .unset, .val (.int (32 : Int32))]) (by simp [wkL]) (okc_c_init_131 hw hc hAE10 (32 : Int32) σ)
  · exact am_wk (Ls' := [.val (.ref 0), .unset, .unset, .unset, .val (.int x4)]) (by simp [wkL]) (okc_c_init_131 hw hc hAE10 x4 σ)
def c_init_103 (x2 : Int32) (x3 : Int32) (σ : Sg) : Option Sg :=
  if x2 < (1 : Int32) then (c_init_120 (1 : Int32) (si σ 0 10 x3)) else (c_init_120 x2 (si σ 0 10 x3))
set_option maxRecDepth 65536 in
set_option maxHeartbeats 4000000 in
theorem okc_c_init_103 (hw : WH a0 Z) (hc : Cx p s m meth c Z "ConservativeBiY" prog_1_method_1_code 5 none "<init>") (hAE10 : AE h0 A0 A 10) (x2 : Int32) (x3 : Int32) (σ : Sg) : OkR p l e rm_c_init s m args below meth c Z "ConservativeBiY" fsC n0 h0 (FI Z "ConservativeBiY" fsC arrsC A0 h0) A (wK arrsC 10 10) 10 645 103 [.val (.ref 0), .unset, .val (.int x2), .val (.int x3), .unset] [] σ (c_init_103 x2 x3 σ) := by
  have hT := tabI hw
  have hF := fsokC hw
  have wi := wiC hw
  unfold c_init_103
  refine am_blk (pc' := 114) (Ls' := [.val (.ref 0), .unset, .val (.int x2), .val (.int x3), .val (.int x2)]) (St' := [.int (1 : Int32), .int x2]) (σ' := si σ 0 10 x3) [.aload_n 0, .iload_n 3, .putfield 41, .iload_n 2, .istore 4, .iload 4, .iconst 1] (by decide +kernel) hc hT hF wi (by exact rfl) ?_
  refine am_icmp_ge (o := 6) (pc1 := 120) (by decide +kernel) hc (fun hq => ?_) (fun hq => ?_)
  · refine am_blk (pc' := 120) (Ls' := [.val (.ref 0), .unset, .val (.int x2), .val (.int x3), .val (.int (1 : Int32))]) (St' := []) (σ' := si σ 0 10 x3) [.iconst 1, .istore 4] (by decide +kernel) hc hT hF wi (by exact rfl) ?_
    exact am_wk (Ls' := [.val (.ref 0), .unset, .unset, .unset, .val (.int (1 : Int32))]) (by simp [wkL]) (okc_c_init_120 hw hc hAE10 (1 : Int32) (si σ 0 10 x3))
  · exact am_wk (Ls' := [.val (.ref 0), .unset, .unset, .unset, .val (.int x2)]) (by simp [wkL]) (okc_c_init_120 hw hc hAE10 x2 (si σ 0 10 x3))
def c_init_94 (x2 : Int32) (x3 : Int32) (σ : Sg) : Option Sg :=
  if (16 : Int32) < x3 then (c_init_103 x2 (16 : Int32) σ) else (c_init_103 x2 x3 σ)
set_option maxRecDepth 65536 in
set_option maxHeartbeats 4000000 in
theorem okc_c_init_94 (hw : WH a0 Z) (hc : Cx p s m meth c Z "ConservativeBiY" prog_1_method_1_code 5 none "<init>") (hAE10 : AE h0 A0 A 10) (x2 : Int32) (x3 : Int32) (σ : Sg) : OkR p l e rm_c_init s m args below meth c Z "ConservativeBiY" fsC n0 h0 (FI Z "ConservativeBiY" fsC arrsC A0 h0) A (wK arrsC 10 10) 10 645 94 [.val (.ref 0), .unset, .val (.int x2), .val (.int x3), .unset] [] σ (c_init_94 x2 x3 σ) := by
  have hT := tabI hw
  have hF := fsokC hw
  have wi := wiC hw
  unfold c_init_94
  refine am_blk (pc' := 97) (Ls' := [.val (.ref 0), .unset, .val (.int x2), .val (.int x3), .unset]) (St' := [.int (16 : Int32), .int x3]) (σ' := σ) [.iload_n 3, .bipush 16] (by decide +kernel) hc hT hF wi (by exact rfl) ?_
  refine am_icmp_le (o := 6) (pc1 := 103) (by decide +kernel) hc (fun hq => ?_) (fun hq => ?_)
  · refine am_blk (pc' := 103) (Ls' := [.val (.ref 0), .unset, .val (.int x2), .val (.int (16 : Int32)), .unset]) (St' := []) (σ' := σ) [.bipush 16, .istore_n 3] (by decide +kernel) hc hT hF wi (by exact rfl) ?_
    exact am_wk (Ls' := [.val (.ref 0), .unset, .val (.int x2), .val (.int (16 : Int32)), .unset]) (by simp [wkL]) (okc_c_init_103 hw hc hAE10 x2 (16 : Int32) σ)
  · exact am_wk (Ls' := [.val (.ref 0), .unset, .val (.int x2), .val (.int x3), .unset]) (by simp [wkL]) (okc_c_init_103 hw hc hAE10 x2 x3 σ)
def c_init (x1 : Int32) (x2 : Int32) : Option Sg :=
  if x1 < (4 : Int32) then (c_init_94 x2 (4 : Int32) zs) else (c_init_94 x2 x1 zs)
set_option maxRecDepth 65536 in
set_option maxHeartbeats 4000000 in
theorem ok_c_init (hw : WH a0 Z) (x1 : Int32) (x2 : Int32) : ∀ x, c_init x1 x2 = some x → ConI l Z "ConservativeBiY" fsC arrsC (⟨"ConservativeBiY", "<init>", "(II)V"⟩ : MethodName) prog_1_method_1_code 5 rm_c_init [.int x1, .int x2] x := by
  refine am_conI pnC ?_
  intro p e s m below meth c A n0 h0 hn hc
  have hAE0 : AE h0 A A 0 := ⟨rfl, fun k q1 q2 => by omega⟩
  have hT := tabI hw
  have hF := fsokC hw
  have wi := wiC hw
  unfold c_init
  refine am_blk (pc' := 1) (Ls' := [.val (.ref 0), .val (.int x1), .val (.int x2), .unset, .unset]) (St' := [.ref 0]) (σ' := zs) [.aload_n 0] (by decide +kernel) hc hT hF wi (by exact rfl) ?_
  refine am_objinit (W0 := 0) (by decide +kernel) hc (hw _ (List.mem_of_getElem? (i := 6) rfl)) (hw _ (List.mem_of_getElem? (i := 7) rfl)) (hw _ (List.mem_of_getElem? (i := 8) rfl)) rfl ⟨by decide, by decide, Nat.le_of_eq rfl⟩ ?_
  refine am_blk (pc' := 7) (Ls' := [.val (.ref 0), .val (.int x1), .val (.int x2), .unset, .unset]) (St' := [.int (32 : Int32), .ref 0]) (σ' := zs) [.aload_n 0, .bipush 32] (by decide +kernel) hc hT hF wi (by exact rfl) ?_
  refine am_newarr (a := 0) (n := 32) (aty := .int) (by decide +kernel) hc (hw _ (List.mem_of_getElem? (i := 9) rfl)) rfl (by decide) rfl ⟨rfl, rfl⟩ hAE0 hn ⟨by decide, by decide, by decide⟩ (fun A hAE1 => ?_)
  refine am_putref (a := 0) (j := 0) (by decide +kernel) hc hF wi rfl (by decide) (hw _ (List.mem_of_getElem? (i := 10) rfl)) (Or.inl (hw _ (List.mem_of_getElem? (i := 11) rfl))) ?_
  refine am_blk (pc' := 16) (Ls' := [.val (.ref 0), .val (.int x1), .val (.int x2), .unset, .unset]) (St' := [.int (256 : Int32), .ref 0]) (σ' := zs) [.aload_n 0, .sipush 256] (by decide +kernel) hc hT hF wi (by exact rfl) ?_
  refine am_newarr (a := 1) (n := 256) (aty := .int) (by decide +kernel) hc (hw _ (List.mem_of_getElem? (i := 9) rfl)) rfl (by decide) rfl ⟨rfl, rfl⟩ hAE1 hn ⟨by decide, by decide, by decide⟩ (fun A hAE2 => ?_)
  refine am_putref (a := 1) (j := 1) (by decide +kernel) hc hF wi rfl (by decide) (hw _ (List.mem_of_getElem? (i := 12) rfl)) (Or.inl (hw _ (List.mem_of_getElem? (i := 13) rfl))) ?_
  refine am_blk (pc' := 24) (Ls' := [.val (.ref 0), .val (.int x1), .val (.int x2), .unset, .unset]) (St' := [.int (16 : Int32), .ref 0]) (σ' := zs) [.aload_n 0, .bipush 16] (by decide +kernel) hc hT hF wi (by exact rfl) ?_
  refine am_newarr (a := 2) (n := 16) (aty := .int) (by decide +kernel) hc (hw _ (List.mem_of_getElem? (i := 9) rfl)) rfl (by decide) rfl ⟨rfl, rfl⟩ hAE2 hn ⟨by decide, by decide, by decide⟩ (fun A hAE3 => ?_)
  refine am_putref (a := 2) (j := 2) (by decide +kernel) hc hF wi rfl (by decide) (hw _ (List.mem_of_getElem? (i := 14) rfl)) (Or.inl (hw _ (List.mem_of_getElem? (i := 15) rfl))) ?_
  refine am_blk (pc' := 32) (Ls' := [.val (.ref 0), .val (.int x1), .val (.int x2), .unset, .unset]) (St' := [.int (16 : Int32), .ref 0]) (σ' := zs) [.aload_n 0, .bipush 16] (by decide +kernel) hc hT hF wi (by exact rfl) ?_
  refine am_newarr (a := 3) (n := 16) (aty := .int) (by decide +kernel) hc (hw _ (List.mem_of_getElem? (i := 9) rfl)) rfl (by decide) rfl ⟨rfl, rfl⟩ hAE3 hn ⟨by decide, by decide, by decide⟩ (fun A hAE4 => ?_)
  refine am_putref (a := 3) (j := 3) (by decide +kernel) hc hF wi rfl (by decide) (hw _ (List.mem_of_getElem? (i := 16) rfl)) (Or.inl (hw _ (List.mem_of_getElem? (i := 17) rfl))) ?_
  refine am_blk (pc' := 40) (Ls' := [.val (.ref 0), .val (.int x1), .val (.int x2), .unset, .unset]) (St' := [.int (16 : Int32), .ref 0]) (σ' := zs) [.aload_n 0, .bipush 16] (by decide +kernel) hc hT hF wi (by exact rfl) ?_
  refine am_newarr (a := 4) (n := 16) (aty := .int) (by decide +kernel) hc (hw _ (List.mem_of_getElem? (i := 9) rfl)) rfl (by decide) rfl ⟨rfl, rfl⟩ hAE4 hn ⟨by decide, by decide, by decide⟩ (fun A hAE5 => ?_)
  refine am_putref (a := 4) (j := 4) (by decide +kernel) hc hF wi rfl (by decide) (hw _ (List.mem_of_getElem? (i := 18) rfl)) (Or.inl (hw _ (List.mem_of_getElem? (i := 19) rfl))) ?_
  refine am_blk (pc' := 48) (Ls' := [.val (.ref 0), .val (.int x1), .val (.int x2), .unset, .unset]) (St' := [.int (16 : Int32), .ref 0]) (σ' := zs) [.aload_n 0, .bipush 16] (by decide +kernel) hc hT hF wi (by exact rfl) ?_
  refine am_newarr (a := 5) (n := 16) (aty := .int) (by decide +kernel) hc (hw _ (List.mem_of_getElem? (i := 9) rfl)) rfl (by decide) rfl ⟨rfl, rfl⟩ hAE5 hn ⟨by decide, by decide, by decide⟩ (fun A hAE6 => ?_)
  refine am_putref (a := 5) (j := 5) (by decide +kernel) hc hF wi rfl (by decide) (hw _ (List.mem_of_getElem? (i := 20) rfl)) (Or.inl (hw _ (List.mem_of_getElem? (i := 21) rfl))) ?_
  refine am_blk (pc' := 56) (Ls' := [.val (.ref 0), .val (.int x1), .val (.int x2), .unset, .unset]) (St' := [.int (16 : Int32), .ref 0]) (σ' := zs) [.aload_n 0, .bipush 16] (by decide +kernel) hc hT hF wi (by exact rfl) ?_
  refine am_newarr (a := 6) (n := 16) (aty := .boolean) (by decide +kernel) hc (hw _ (List.mem_of_getElem? (i := 22) rfl)) rfl (by decide) rfl ⟨rfl, rfl⟩ hAE6 hn ⟨by decide, by decide, by decide⟩ (fun A hAE7 => ?_)
  refine am_putref (a := 6) (j := 6) (by decide +kernel) hc hF wi rfl (by decide) (hw _ (List.mem_of_getElem? (i := 23) rfl)) (Or.inl (hw _ (List.mem_of_getElem? (i := 24) rfl))) ?_
  refine am_blk (pc' := 63) (Ls' := [.val (.ref 0), .val (.int x1), .val (.int x2), .unset, .unset]) (St' := [.int (5 : Int32), .ref 0]) (σ' := zs) [.aload_n 0, .iconst 5] (by decide +kernel) hc hT hF wi (by exact rfl) ?_
  refine am_newarr (a := 7) (n := 5) (aty := .int) (by decide +kernel) hc (hw _ (List.mem_of_getElem? (i := 9) rfl)) rfl (by decide) rfl ⟨rfl, rfl⟩ hAE7 hn ⟨by decide, by decide, by decide⟩ (fun A hAE8 => ?_)
  refine am_putref (a := 7) (j := 7) (by decide +kernel) hc hF wi rfl (by decide) (hw _ (List.mem_of_getElem? (i := 25) rfl)) (Or.inl (hw _ (List.mem_of_getElem? (i := 26) rfl))) ?_
  refine am_blk (pc' := 71) (Ls' := [.val (.ref 0), .val (.int x1), .val (.int x2), .unset, .unset]) (St' := [.int (16 : Int32), .ref 0]) (σ' := zs) [.aload_n 0, .bipush 16] (by decide +kernel) hc hT hF wi (by exact rfl) ?_
  refine am_newarr (a := 8) (n := 16) (aty := .int) (by decide +kernel) hc (hw _ (List.mem_of_getElem? (i := 9) rfl)) rfl (by decide) rfl ⟨rfl, rfl⟩ hAE8 hn ⟨by decide, by decide, by decide⟩ (fun A hAE9 => ?_)
  refine am_putref (a := 8) (j := 8) (by decide +kernel) hc hF wi rfl (by decide) (hw _ (List.mem_of_getElem? (i := 27) rfl)) (Or.inl (hw _ (List.mem_of_getElem? (i := 28) rfl))) ?_
  refine am_blk (pc' := 80) (Ls' := [.val (.ref 0), .val (.int x1), .val (.int x2), .unset, .unset]) (St' := [.int (256 : Int32), .ref 0]) (σ' := zs) [.aload_n 0, .sipush 256] (by decide +kernel) hc hT hF wi (by exact rfl) ?_
  refine am_newarr (a := 9) (n := 256) (aty := .int) (by decide +kernel) hc (hw _ (List.mem_of_getElem? (i := 9) rfl)) rfl (by decide) rfl ⟨rfl, rfl⟩ hAE9 hn ⟨by decide, by decide, by decide⟩ (fun A hAE10 => ?_)
  refine am_putref (a := 9) (j := 9) (by decide +kernel) hc hF wi rfl (by decide) (hw _ (List.mem_of_getElem? (i := 29) rfl)) (Or.inl (hw _ (List.mem_of_getElem? (i := 30) rfl))) ?_
  refine am_blk (pc' := 89) (Ls' := [.val (.ref 0), .val (.int x1), .val (.int x2), .val (.int x1), .unset]) (St' := [.int (4 : Int32), .int x1]) (σ' := zs) [.iload_n 1, .istore_n 3, .iload_n 3, .iconst 4] (by decide +kernel) hc hT hF wi (by exact rfl) ?_
  refine am_icmp_ge (o := 5) (pc1 := 94) (by decide +kernel) hc (fun hq => ?_) (fun hq => ?_)
  · refine am_blk (pc' := 94) (Ls' := [.val (.ref 0), .val (.int x1), .val (.int x2), .val (.int (4 : Int32)), .unset]) (St' := []) (σ' := zs) [.iconst 4, .istore_n 3] (by decide +kernel) hc hT hF wi (by exact rfl) ?_
    exact am_wk (Ls' := [.val (.ref 0), .unset, .val (.int x2), .val (.int (4 : Int32)), .unset]) (by simp [wkL]) (okc_c_init_94 hw hc hAE10 x2 (4 : Int32) zs)
  · exact am_wk (Ls' := [.val (.ref 0), .unset, .val (.int x2), .val (.int x1), .unset]) (by simp [wkL]) (okc_c_init_94 hw hc hAE10 x2 x1 zs)
abbrev rm_q_word : Room := { frames := 0, cells := 0, slots := 0, locals := 0 }
def q_word (x0 : Int32) (σ : Sg) : Option (Int32 × Sg) :=
  if (x0 &&& (1 : Int32)) = 0 then (some ((4096 : Int32) + ((XT.ushr x0 (1 : Int32)) &&& (63 : Int32)), σ)) else (some ((XT.ushr x0 (1 : Int32)) &&& (255 : Int32), σ))
set_option maxRecDepth 65536 in
set_option maxHeartbeats 4000000 in
theorem ok_q_word (hw : WH a0 Z) (x0 : Int32) (σ : Sg) : ∀ x, q_word x0 σ = some x → Con l Z "ConservativeBiY" fsC (⟨"ConservativeBiYL7", "word", "(I)I"⟩ : MethodName) method_4_code 1 (some .int) rm_q_word w [.int x0] σ (fI x).1 (fI x).2 := by
  refine am_con pnL ?_
  intro p e s m below meth c A n0 h0 hc
  have hT := tabL hw "word"
  have hF := fsokC hw
  have wi := wiC hw
  unfold q_word
  refine am_blk (pc' := 3) (Ls' := [.val (.int x0)]) (St' := [.int (x0 &&& (1 : Int32))]) (σ' := σ) [.iload_n 0, .iconst 1, .iand] (by decide +kernel) hc hT hF wi (by exact rfl) ?_
  refine am_if_ne (o := 14) (pc1 := 17) (by decide +kernel) hc (fun hq => ?_) (fun hq => ?_)
  · refine am_blk (pc' := 16) (Ls' := [.val (.int x0)]) (St' := [.int ((4096 : Int32) + ((XT.ushr x0 (1 : Int32)) &&& (63 : Int32)))]) (σ' := σ) [.sipush 4096, .iload_n 0, .iconst 1, .iushr, .bipush 63, .iand, .iadd] (by decide +kernel) hc hT hF wi (by exact rfl) ?_
    exact am_retI (by decide +kernel) hc (by decide) (by decide) (fun h W O => ⟨rfl, W, O⟩)
  · refine am_blk (pc' := 24) (Ls' := [.val (.int x0)]) (St' := [.int ((XT.ushr x0 (1 : Int32)) &&& (255 : Int32))]) (σ' := σ) [.iload_n 0, .iconst 1, .iushr, .sipush 255, .iand] (by decide +kernel) hc hT hF wi (by exact rfl) ?_
    exact am_retI (by decide +kernel) hc (by decide) (by decide) (fun h W O => ⟨rfl, W, O⟩)
abbrev rm_c_rootDepth : Room := { frames := 0, cells := 0, slots := 0, locals := 0 }
def c_rootDepth (σ : Sg) : Option (Int32 × Sg) :=
  some (gi σ 0 12, σ)
set_option maxRecDepth 65536 in
set_option maxHeartbeats 4000000 in
theorem ok_c_rootDepth (hw : WH a0 Z) (σ : Sg) : ∀ x, c_rootDepth σ = some x → Con l Z "ConservativeBiY" fsC (⟨"ConservativeBiY", "rootDepth", "()I"⟩ : MethodName) prog_1_method_6_code 1 (some .int) rm_c_rootDepth wC [.ref 0] σ (fI x).1 (fI x).2 := by
  refine am_con pnC ?_
  intro p e s m below meth c A n0 h0 hc
  have hT := tabC hw "rootDepth"
  have hF := fsokC hw
  have wi := wiC hw
  unfold c_rootDepth
  refine am_blk (pc' := 4) (Ls' := [.val (.ref 0)]) (St' := [.int (gi σ 0 12)]) (σ' := σ) [.aload_n 0, .getfield 48] (by decide +kernel) hc hT hF wi (by exact rfl) ?_
  exact am_retI (by decide +kernel) hc (by decide) (by decide) (fun h W O => ⟨rfl, W, O⟩)
abbrev rm_c_rootIndexValid : Room := { frames := 0, cells := 0, slots := 0, locals := 0 }
def c_rootIndexValid (x1 : Int32) (σ : Sg) : Option (Int32 × Sg) :=
  if x1 < 0 then (some ((0 : Int32), σ)) else (if x1 < (gi σ 0 12) then (if x1 < (32 : Int32) then (some ((1 : Int32), σ)) else (some ((0 : Int32), σ))) else (some ((0 : Int32), σ)))
set_option maxRecDepth 65536 in
set_option maxHeartbeats 4000000 in
theorem ok_c_rootIndexValid (hw : WH a0 Z) (x1 : Int32) (σ : Sg) : ∀ x, c_rootIndexValid x1 σ = some x → Con l Z "ConservativeBiY" fsC (⟨"ConservativeBiY", "rootIndexValid", "(I)Z"⟩ : MethodName) prog_1_method_7_code 2 (some .boolean) rm_c_rootIndexValid wC [.ref 0, .int x1] σ (fI x).1 (fI x).2 := by
  refine am_con pnC ?_
  intro p e s m below meth c A n0 h0 hc
  have hT := tabC hw "rootIndexValid"
  have hF := fsokC hw
  have wi := wiC hw
  unfold c_rootIndexValid
  refine am_blk (pc' := 1) (Ls' := [.val (.ref 0), .val (.int x1)]) (St' := [.int x1]) (σ' := σ) [.iload_n 1] (by decide +kernel) hc hT hF wi (by exact rfl) ?_
  refine am_if_lt (o := 11) (pc1 := 12) (by decide +kernel) hc (fun hq => ?_) (fun hq => ?_)
  · refine am_blk (pc' := 13) (Ls' := [.val (.ref 0), .val (.int x1)]) (St' := [.int (0 : Int32)]) (σ' := σ) [.iconst 0] (by decide +kernel) hc hT hF wi (by exact rfl) ?_
    exact am_retZ (by decide +kernel) hc (by decide) (by decide) (fun h W O => ⟨rfl, W, O⟩)
  · refine am_blk (pc' := 9) (Ls' := [.val (.ref 0), .val (.int x1)]) (St' := [.int (gi σ 0 12), .int x1]) (σ' := σ) [.iload_n 1, .aload_n 0, .getfield 48] (by decide +kernel) hc hT hF wi (by exact rfl) ?_
    refine am_icmp_lt (o := 5) (pc1 := 14) (by decide +kernel) hc (fun hq => ?_) (fun hq => ?_)
    · refine am_blk (pc' := 17) (Ls' := [.val (.ref 0), .val (.int x1)]) (St' := [.int (32 : Int32), .int x1]) (σ' := σ) [.iload_n 1, .bipush 32] (by decide +kernel) hc hT hF wi (by exact rfl) ?_
      refine am_icmp_ge (o := 7) (pc1 := 24) (by decide +kernel) hc (fun hq => ?_) (fun hq => ?_)
      · refine am_blk (pc' := 25) (Ls' := [.val (.ref 0), .val (.int x1)]) (St' := [.int (1 : Int32)]) (σ' := σ) [.iconst 1, .goto 4] (by decide +kernel) hc hT hF wi (by exact rfl) ?_
        exact am_retZ (by decide +kernel) hc (by decide) (by decide) (fun h W O => ⟨rfl, W, O⟩)
      · refine am_blk (pc' := 25) (Ls' := [.val (.ref 0), .val (.int x1)]) (St' := [.int (0 : Int32)]) (σ' := σ) [.iconst 0] (by decide +kernel) hc hT hF wi (by exact rfl) ?_
        exact am_retZ (by decide +kernel) hc (by decide) (by decide) (fun h W O => ⟨rfl, W, O⟩)
    · refine am_blk (pc' := 13) (Ls' := [.val (.ref 0), .val (.int x1)]) (St' := [.int (0 : Int32)]) (σ' := σ) [.iconst 0] (by decide +kernel) hc hT hF wi (by exact rfl) ?_
      exact am_retZ (by decide +kernel) hc (by decide) (by decide) (fun h W O => ⟨rfl, W, O⟩)
abbrev rm_c_getRoot : Room := { frames := 1, cells := 0, slots := 0, locals := 13 }
def c_getRoot (x1 : Int32) (σ : Sg) : Option (Int32 × Sg) :=
  (c_rootIndexValid x1 σ).bind fun r1 => if r1.1 = 0 then (some ((0 : Int32), r1.2)) else (if inb x1 32 = true then (some (gi r1.2 1 (nx x1), r1.2)) else none)
set_option maxRecDepth 65536 in
set_option maxHeartbeats 4000000 in
theorem ok_c_getRoot (hw : WH a0 Z) (x1 : Int32) (σ : Sg) : ∀ x, c_getRoot x1 σ = some x → Con l Z "ConservativeBiY" fsC (⟨"ConservativeBiY", "getRoot", "(I)I"⟩ : MethodName) prog_1_method_5_code 2 (some .int) rm_c_getRoot wC [.ref 0, .int x1] σ (fI x).1 (fI x).2 := by
  refine am_con pnC ?_
  intro p e s m below meth c A n0 h0 hc
  have hT := tabC hw "getRoot"
  have hF := fsokC hw
  have wi := wiC hw
  unfold c_getRoot
  refine am_blk (pc' := 2) (Ls' := [.val (.ref 0), .val (.int x1)]) (St' := [.int x1, .ref 0]) (σ' := σ) [.aload_n 0, .iload_n 1] (by decide +kernel) hc hT hF wi (by exact rfl) ?_
  refine am_callP_I (W0 := 0) (argsL := [.int x1]) (rest := []) rfl (lk_C_64 hw) rfl wi (by decide +kernel) hc (SubW.refl _) rfl (by show arity "(I)Z" 1 = true; decide +kernel) (ok_c_rootIndexValid hw x1 _) rfl ⟨by decide, by decide, Nat.le_of_eq rfl, rfl, rfl, by decide, by decide⟩ (fun r1 hr => ?_)
  refine am_if_ne (o := 5) (pc1 := 10) (by decide +kernel) hc (fun hq => ?_) (fun hq => ?_)
  · refine am_blk (pc' := 9) (Ls' := [.val (.ref 0), .val (.int x1)]) (St' := [.int (0 : Int32)]) (σ' := r1.2) [.iconst 0] (by decide +kernel) hc hT hF wi (by exact rfl) ?_
    exact am_retI (by decide +kernel) hc (by decide) (by decide) (fun h W O => ⟨rfl, W, O⟩)
  · refine am_blk (pc' := 15) (Ls' := [.val (.ref 0), .val (.int x1)]) (St' := [.int x1, .ref 1]) (σ' := r1.2) [.aload_n 0, .getfield 7, .iload_n 1] (by decide +kernel) hc hT hF wi (by exact rfl) ?_
    refine am_iaload (by decide +kernel) hc rfl (fun hb0 => ?_)
    exact am_retI (by decide +kernel) hc (by decide) (by decide) (fun h W O => ⟨rfl, W, O⟩)
abbrev rm_c_pageOf : Room := { frames := 0, cells := 0, slots := 0, locals := 0 }
def c_pageOf (x1 : Int32) (σ : Sg) : Option (Int32 × Sg) :=
  if x1 < (4096 : Int32) then (some ((-1 : Int32), σ)) else (if (x1 - (4096 : Int32)) < ((gi σ 0 10) <<< ((4 : Int32) &&& 31)) then (some ((x1 - (4096 : Int32)) >>> ((4 : Int32) &&& 31), σ)) else (some ((-1 : Int32), σ)))
set_option maxRecDepth 65536 in
set_option maxHeartbeats 4000000 in
theorem ok_c_pageOf (hw : WH a0 Z) (x1 : Int32) (σ : Sg) : ∀ x, c_pageOf x1 σ = some x → Con l Z "ConservativeBiY" fsC (⟨"ConservativeBiY", "pageOf", "(I)I"⟩ : MethodName) prog_1_method_19_code 3 (some .int) rm_c_pageOf wC [.ref 0, .int x1] σ (fI x).1 (fI x).2 := by
  refine am_con pnC ?_
  intro p e s m below meth c A n0 h0 hc
  have hT := tabC hw "pageOf"
  have hF := fsokC hw
  have wi := wiC hw
  unfold c_pageOf
  refine am_blk (pc' := 4) (Ls' := [.val (.ref 0), .val (.int x1), .unset]) (St' := [.int (4096 : Int32), .int x1]) (σ' := σ) [.iload_n 1, .sipush 4096] (by decide +kernel) hc hT hF wi (by exact rfl) ?_
  refine am_icmp_ge (o := 5) (pc1 := 9) (by decide +kernel) hc (fun hq => ?_) (fun hq => ?_)
  · refine am_blk (pc' := 8) (Ls' := [.val (.ref 0), .val (.int x1), .unset]) (St' := [.int (-1 : Int32)]) (σ' := σ) [.iconst (-1)] (by decide +kernel) hc hT hF wi (by exact rfl) ?_
    exact am_retI (by decide +kernel) hc (by decide) (by decide) (fun h W O => ⟨rfl, W, O⟩)
  · refine am_blk (pc' := 22) (Ls' := [.val (.ref 0), .val (.int x1), .val (.int (x1 - (4096 : Int32)))]) (St' := [.int ((gi σ 0 10) <<< ((4 : Int32) &&& 31)), .int (x1 - (4096 : Int32))]) (σ' := σ) [.iload_n 1, .sipush 4096, .isub, .istore_n 2, .iload_n 2, .aload_n 0, .getfield 41, .iconst 4, .ishl] (by decide +kernel) hc hT hF wi (by exact rfl) ?_
    refine am_icmp_lt (o := 5) (pc1 := 27) (by decide +kernel) hc (fun hq => ?_) (fun hq => ?_)
    · refine am_blk (pc' := 30) (Ls' := [.val (.ref 0), .val (.int x1), .val (.int (x1 - (4096 : Int32)))]) (St' := [.int ((x1 - (4096 : Int32)) >>> ((4 : Int32) &&& 31))]) (σ' := σ) [.iload_n 2, .iconst 4, .ishr] (by decide +kernel) hc hT hF wi (by exact rfl) ?_
      exact am_retI (by decide +kernel) hc (by decide) (by decide) (fun h W O => ⟨rfl, W, O⟩)
    · refine am_blk (pc' := 26) (Ls' := [.val (.ref 0), .val (.int x1), .val (.int (x1 - (4096 : Int32)))]) (St' := [.int (-1 : Int32)]) (σ' := σ) [.iconst (-1)] (by decide +kernel) hc hT hF wi (by exact rfl) ?_
      exact am_retI (by decide +kernel) hc (by decide) (by decide) (fun h W O => ⟨rfl, W, O⟩)
abbrev rm_c_slotOf : Room := { frames := 0, cells := 0, slots := 0, locals := 0 }
def c_slotOf (x1 : Int32) (x2 : Int32) (σ : Sg) : Option (Int32 × Sg) :=
  if ((x1 - (4096 : Int32)) - (x2 <<< ((4 : Int32) &&& 31))) < 0 then (some ((-1 : Int32), σ)) else (if (15 : Int32) < ((x1 - (4096 : Int32)) - (x2 <<< ((4 : Int32) &&& 31))) then (some ((-1 : Int32), σ)) else (if inb x2 16 = true then (some (((x1 - (4096 : Int32)) - (x2 <<< ((4 : Int32) &&& 31))) >>> ((gi σ 4 (nx x2)) &&& 31), σ)) else none))
set_option maxRecDepth 65536 in
set_option maxHeartbeats 4000000 in
theorem ok_c_slotOf (hw : WH a0 Z) (x1 : Int32) (x2 : Int32) (σ : Sg) : ∀ x, c_slotOf x1 x2 σ = some x → Con l Z "ConservativeBiY" fsC (⟨"ConservativeBiY", "slotOf", "(II)I"⟩ : MethodName) prog_1_method_20_code 4 (some .int) rm_c_slotOf wC [.ref 0, .int x1, .int x2] σ (fI x).1 (fI x).2 := by
  refine am_con pnC ?_
  intro p e s m below meth c A n0 h0 hc
  have hT := tabC hw "slotOf"
  have hF := fsokC hw
  have wi := wiC hw
  unfold c_slotOf
  refine am_blk (pc' := 11) (Ls' := [.val (.ref 0), .val (.int x1), .val (.int x2), .val (.int ((x1 - (4096 : Int32)) - (x2 <<< ((4 : Int32) &&& 31))))]) (St' := [.int ((x1 - (4096 : Int32)) - (x2 <<< ((4 : Int32) &&& 31)))]) (σ' := σ) [.iload_n 1, .sipush 4096, .isub, .iload_n 2, .iconst 4, .ishl, .isub, .istore_n 3, .iload_n 3] (by decide +kernel) hc hT hF wi (by exact rfl) ?_
  refine am_if_lt (o := 9) (pc1 := 20) (by decide +kernel) hc (fun hq => ?_) (fun hq => ?_)
  · refine am_blk (pc' := 21) (Ls' := [.val (.ref 0), .val (.int x1), .val (.int x2), .val (.int ((x1 - (4096 : Int32)) - (x2 <<< ((4 : Int32) &&& 31))))]) (St' := [.int (-1 : Int32)]) (σ' := σ) [.iconst (-1)] (by decide +kernel) hc hT hF wi (by exact rfl) ?_
    exact am_retI (by decide +kernel) hc (by decide) (by decide) (fun h W O => ⟨rfl, W, O⟩)
  · refine am_blk (pc' := 17) (Ls' := [.val (.ref 0), .val (.int x1), .val (.int x2), .val (.int ((x1 - (4096 : Int32)) - (x2 <<< ((4 : Int32) &&& 31))))]) (St' := [.int (15 : Int32), .int ((x1 - (4096 : Int32)) - (x2 <<< ((4 : Int32) &&& 31)))]) (σ' := σ) [.iload_n 3, .bipush 15] (by decide +kernel) hc hT hF wi (by exact rfl) ?_
    refine am_icmp_le (o := 5) (pc1 := 22) (by decide +kernel) hc (fun hq => ?_) (fun hq => ?_)
    · refine am_blk (pc' := 21) (Ls' := [.val (.ref 0), .val (.int x1), .val (.int x2), .val (.int ((x1 - (4096 : Int32)) - (x2 <<< ((4 : Int32) &&& 31))))]) (St' := [.int (-1 : Int32)]) (σ' := σ) [.iconst (-1)] (by decide +kernel) hc hT hF wi (by exact rfl) ?_
      exact am_retI (by decide +kernel) hc (by decide) (by decide) (fun h W O => ⟨rfl, W, O⟩)
    · refine am_blk (pc' := 28) (Ls' := [.val (.ref 0), .val (.int x1), .val (.int x2), .val (.int ((x1 - (4096 : Int32)) - (x2 <<< ((4 : Int32) &&& 31))))]) (St' := [.int x2, .ref 4, .int ((x1 - (4096 : Int32)) - (x2 <<< ((4 : Int32) &&& 31)))]) (σ' := σ) [.iload_n 3, .aload_n 0, .getfield 19, .iload_n 2] (by decide +kernel) hc hT hF wi (by exact rfl) ?_
      refine am_iaload (by decide +kernel) hc rfl (fun hb0 => ?_)
      refine am_blk (pc' := 30) (Ls' := [.val (.ref 0), .val (.int x1), .val (.int x2), .val (.int ((x1 - (4096 : Int32)) - (x2 <<< ((4 : Int32) &&& 31))))]) (St' := [.int (((x1 - (4096 : Int32)) - (x2 <<< ((4 : Int32) &&& 31))) >>> ((gi σ 4 (nx x2)) &&& 31))]) (σ' := σ) [.ishr] (by decide +kernel) hc hT hF wi (by exact rfl) ?_
      exact am_retI (by decide +kernel) hc (by decide) (by decide) (fun h W O => ⟨rfl, W, O⟩)
abbrev rm_c_slotLive : Room := { frames := 0, cells := 0, slots := 0, locals := 0 }
def c_slotLive (x1 : Int32) (x2 : Int32) (σ : Sg) : Option (Int32 × Sg) :=
  if x1 < 0 then (some ((0 : Int32), σ)) else (if x1 < (16 : Int32) then (if x2 < 0 then (some ((0 : Int32), σ)) else (if x2 < (16 : Int32) then (if inb x1 16 = true then (if (((gi σ 5 (nx x1)) >>> (x2 &&& 31)) &&& (1 : Int32)) = 0 then (some ((0 : Int32), σ)) else (some ((1 : Int32), σ))) else none) else (some ((0 : Int32), σ)))) else (some ((0 : Int32), σ)))
set_option maxRecDepth 65536 in
set_option maxHeartbeats 4000000 in
theorem ok_c_slotLive (hw : WH a0 Z) (x1 : Int32) (x2 : Int32) (σ : Sg) : ∀ x, c_slotLive x1 x2 σ = some x → Con l Z "ConservativeBiY" fsC (⟨"ConservativeBiY", "slotLive", "(II)Z"⟩ : MethodName) prog_1_method_22_code 3 (some .boolean) rm_c_slotLive wC [.ref 0, .int x1, .int x2] σ (fI x).1 (fI x).2 := by
  refine am_con pnC ?_
  intro p e s m below meth c A n0 h0 hc
  have hT := tabC hw "slotLive"
  have hF := fsokC hw
  have wi := wiC hw
  unfold c_slotLive
  refine am_blk (pc' := 1) (Ls' := [.val (.ref 0), .val (.int x1), .val (.int x2)]) (St' := [.int x1]) (σ' := σ) [.iload_n 1] (by decide +kernel) hc hT hF wi (by exact rfl) ?_
  refine am_if_lt (o := 19) (pc1 := 20) (by decide +kernel) hc (fun hq => ?_) (fun hq => ?_)
  · refine am_blk (pc' := 21) (Ls' := [.val (.ref 0), .val (.int x1), .val (.int x2)]) (St' := [.int (0 : Int32)]) (σ' := σ) [.iconst 0] (by decide +kernel) hc hT hF wi (by exact rfl) ?_
    exact am_retZ (by decide +kernel) hc (by decide) (by decide) (fun h W O => ⟨rfl, W, O⟩)
  · refine am_blk (pc' := 7) (Ls' := [.val (.ref 0), .val (.int x1), .val (.int x2)]) (St' := [.int (16 : Int32), .int x1]) (σ' := σ) [.iload_n 1, .bipush 16] (by decide +kernel) hc hT hF wi (by exact rfl) ?_
    refine am_icmp_ge (o := 13) (pc1 := 20) (by decide +kernel) hc (fun hq => ?_) (fun hq => ?_)
    · refine am_blk (pc' := 11) (Ls' := [.val (.ref 0), .val (.int x1), .val (.int x2)]) (St' := [.int x2]) (σ' := σ) [.iload_n 2] (by decide +kernel) hc hT hF wi (by exact rfl) ?_
      refine am_if_lt (o := 9) (pc1 := 20) (by decide +kernel) hc (fun hq => ?_) (fun hq => ?_)
      · refine am_blk (pc' := 21) (Ls' := [.val (.ref 0), .val (.int x1), .val (.int x2)]) (St' := [.int (0 : Int32)]) (σ' := σ) [.iconst 0] (by decide +kernel) hc hT hF wi (by exact rfl) ?_
        exact am_retZ (by decide +kernel) hc (by decide) (by decide) (fun h W O => ⟨rfl, W, O⟩)
      · refine am_blk (pc' := 17) (Ls' := [.val (.ref 0), .val (.int x1), .val (.int x2)]) (St' := [.int (16 : Int32), .int x2]) (σ' := σ) [.iload_n 2, .bipush 16] (by decide +kernel) hc hT hF wi (by exact rfl) ?_
        refine am_icmp_lt (o := 5) (pc1 := 22) (by decide +kernel) hc (fun hq => ?_) (fun hq => ?_)
        · refine am_blk (pc' := 27) (Ls' := [.val (.ref 0), .val (.int x1), .val (.int x2)]) (St' := [.int x1, .ref 5]) (σ' := σ) [.aload_n 0, .getfield 22, .iload_n 1] (by decide +kernel) hc hT hF wi (by exact rfl) ?_
          refine am_iaload (by decide +kernel) hc rfl (fun hb0 => ?_)
          refine am_blk (pc' := 32) (Ls' := [.val (.ref 0), .val (.int x1), .val (.int x2)]) (St' := [.int (((gi σ 5 (nx x1)) >>> (x2 &&& 31)) &&& (1 : Int32))]) (σ' := σ) [.iload_n 2, .ishr, .iconst 1, .iand] (by decide +kernel) hc hT hF wi (by exact rfl) ?_
          refine am_if_eq (o := 7) (pc1 := 39) (by decide +kernel) hc (fun hq => ?_) (fun hq => ?_)
          · refine am_blk (pc' := 40) (Ls' := [.val (.ref 0), .val (.int x1), .val (.int x2)]) (St' := [.int (0 : Int32)]) (σ' := σ) [.iconst 0] (by decide +kernel) hc hT hF wi (by exact rfl) ?_
            exact am_retZ (by decide +kernel) hc (by decide) (by decide) (fun h W O => ⟨rfl, W, O⟩)
          · refine am_blk (pc' := 40) (Ls' := [.val (.ref 0), .val (.int x1), .val (.int x2)]) (St' := [.int (1 : Int32)]) (σ' := σ) [.iconst 1, .goto 4] (by decide +kernel) hc hT hF wi (by exact rfl) ?_
            exact am_retZ (by decide +kernel) hc (by decide) (by decide) (fun h W O => ⟨rfl, W, O⟩)
        · refine am_blk (pc' := 21) (Ls' := [.val (.ref 0), .val (.int x1), .val (.int x2)]) (St' := [.int (0 : Int32)]) (σ' := σ) [.iconst 0] (by decide +kernel) hc hT hF wi (by exact rfl) ?_
          exact am_retZ (by decide +kernel) hc (by decide) (by decide) (fun h W O => ⟨rfl, W, O⟩)
    · refine am_blk (pc' := 21) (Ls' := [.val (.ref 0), .val (.int x1), .val (.int x2)]) (St' := [.int (0 : Int32)]) (σ' := σ) [.iconst 0] (by decide +kernel) hc hT hF wi (by exact rfl) ?_
      exact am_retZ (by decide +kernel) hc (by decide) (by decide) (fun h W O => ⟨rfl, W, O⟩)
abbrev rm_c_slotStart : Room := { frames := 0, cells := 0, slots := 0, locals := 0 }
def c_slotStart (x1 : Int32) (x2 : Int32) (σ : Sg) : Option (Int32 × Sg) :=
  if inb x1 16 = true then (some (((4096 : Int32) + (x1 <<< ((4 : Int32) &&& 31))) + (x2 <<< ((gi σ 4 (nx x1)) &&& 31)), σ)) else none
set_option maxRecDepth 65536 in
set_option maxHeartbeats 4000000 in
theorem ok_c_slotStart (hw : WH a0 Z) (x1 : Int32) (x2 : Int32) (σ : Sg) : ∀ x, c_slotStart x1 x2 σ = some x → Con l Z "ConservativeBiY" fsC (⟨"ConservativeBiY", "slotStart", "(II)I"⟩ : MethodName) prog_1_method_21_code 3 (some .int) rm_c_slotStart wC [.ref 0, .int x1, .int x2] σ (fI x).1 (fI x).2 := by
  refine am_con pnC ?_
  intro p e s m below meth c A n0 h0 hc
  have hT := tabC hw "slotStart"
  have hF := fsokC hw
  have wi := wiC hw
  unfold c_slotStart
  refine am_blk (pc' := 13) (Ls' := [.val (.ref 0), .val (.int x1), .val (.int x2)]) (St' := [.int x1, .ref 4, .int x2, .int ((4096 : Int32) + (x1 <<< ((4 : Int32) &&& 31)))]) (σ' := σ) [.sipush 4096, .iload_n 1, .iconst 4, .ishl, .iadd, .iload_n 2, .aload_n 0, .getfield 19, .iload_n 1] (by decide +kernel) hc hT hF wi (by exact rfl) ?_
  refine am_iaload (by decide +kernel) hc rfl (fun hb0 => ?_)
  refine am_blk (pc' := 16) (Ls' := [.val (.ref 0), .val (.int x1), .val (.int x2)]) (St' := [.int (((4096 : Int32) + (x1 <<< ((4 : Int32) &&& 31))) + (x2 <<< ((gi σ 4 (nx x1)) &&& 31)))]) (σ' := σ) [.ishl, .iadd] (by decide +kernel) hc hT hF wi (by exact rfl) ?_
  exact am_retI (by decide +kernel) hc (by decide) (by decide) (fun h W O => ⟨rfl, W, O⟩)
abbrev rm_c_findStart : Room := { frames := 1, cells := 0, slots := 0, locals := 15 }
def c_findStart (x1 : Int32) (σ : Sg) : Option (Int32 × Sg) :=
  (c_pageOf x1 σ).bind fun r1 => if r1.1 < 0 then (some ((0 : Int32), r1.2)) else (if inb r1.1 16 = true then (if (gi r1.2 3 (nx r1.1)) = 0 then (some ((0 : Int32), r1.2)) else ((c_slotOf x1 r1.1 r1.2).bind fun r2 => (c_slotLive r1.1 r2.1 r2.2).bind fun r3 => if r3.1 = 0 then (some ((0 : Int32), r3.2)) else ((c_slotStart r1.1 r2.1 r3.2).bind fun r4 => some (r4.1, r4.2)))) else none)
set_option maxRecDepth 65536 in
set_option maxHeartbeats 4000000 in
theorem ok_c_findStart (hw : WH a0 Z) (x1 : Int32) (σ : Sg) : ∀ x, c_findStart x1 σ = some x → Con l Z "ConservativeBiY" fsC (⟨"ConservativeBiY", "findStart", "(I)I"⟩ : MethodName) prog_1_method_23_code 4 (some .int) rm_c_findStart wC [.ref 0, .int x1] σ (fI x).1 (fI x).2 := by
  refine am_con pnC ?_
  intro p e s m below meth c A n0 h0 hc
  have hT := tabC hw "findStart"
  have hF := fsokC hw
  have wi := wiC hw
  unfold c_findStart
  refine am_blk (pc' := 2) (Ls' := [.val (.ref 0), .val (.int x1), .unset, .unset]) (St' := [.int x1, .ref 0]) (σ' := σ) [.aload_n 0, .iload_n 1] (by decide +kernel) hc hT hF wi (by exact rfl) ?_
  refine am_callP_I (W0 := 0) (argsL := [.int x1]) (rest := []) rfl (lk_C_102 hw) rfl wi (by decide +kernel) hc (SubW.refl _) rfl (by show arity "(I)I" 1 = true; decide +kernel) (ok_c_pageOf hw x1 _) rfl ⟨by decide, by decide, Nat.le_of_eq rfl, rfl, rfl, by decide, by decide⟩ (fun r1 hr => ?_)
  refine am_blk (pc' := 7) (Ls' := [.val (.ref 0), .val (.int x1), .val (.int r1.1), .unset]) (St' := [.int r1.1]) (σ' := r1.2) [.istore_n 2, .iload_n 2] (by decide +kernel) hc hT hF wi (by exact rfl) ?_
  refine am_if_ge (o := 5) (pc1 := 12) (by decide +kernel) hc (fun hq => ?_) (fun hq => ?_)
  · refine am_blk (pc' := 11) (Ls' := [.val (.ref 0), .val (.int x1), .val (.int r1.1), .unset]) (St' := [.int (0 : Int32)]) (σ' := r1.2) [.iconst 0] (by decide +kernel) hc hT hF wi (by exact rfl) ?_
    exact am_retI (by decide +kernel) hc (by decide) (by decide) (fun h W O => ⟨rfl, W, O⟩)
  · refine am_blk (pc' := 17) (Ls' := [.val (.ref 0), .val (.int x1), .val (.int r1.1), .unset]) (St' := [.int r1.1, .ref 3]) (σ' := r1.2) [.aload_n 0, .getfield 16, .iload_n 2] (by decide +kernel) hc hT hF wi (by exact rfl) ?_
    refine am_iaload (by decide +kernel) hc rfl (fun hb0 => ?_)
    refine am_if_ne (o := 5) (pc1 := 23) (by decide +kernel) hc (fun hq => ?_) (fun hq => ?_)
    · refine am_blk (pc' := 22) (Ls' := [.val (.ref 0), .val (.int x1), .val (.int r1.1), .unset]) (St' := [.int (0 : Int32)]) (σ' := r1.2) [.iconst 0] (by decide +kernel) hc hT hF wi (by exact rfl) ?_
      exact am_retI (by decide +kernel) hc (by decide) (by decide) (fun h W O => ⟨rfl, W, O⟩)
    · refine am_blk (pc' := 26) (Ls' := [.val (.ref 0), .val (.int x1), .val (.int r1.1), .unset]) (St' := [.int r1.1, .int x1, .ref 0]) (σ' := r1.2) [.aload_n 0, .iload_n 1, .iload_n 2] (by decide +kernel) hc hT hF wi (by exact rfl) ?_
      refine am_callP_I (W0 := 0) (argsL := [.int x1, .int r1.1]) (rest := []) rfl (lk_C_105 hw) rfl wi (by decide +kernel) hc (SubW.refl _) rfl (by show arity "(II)I" 2 = true; decide +kernel) (ok_c_slotOf hw x1 r1.1 _) rfl ⟨by decide, by decide, Nat.le_of_eq rfl, rfl, rfl, by decide, by decide⟩ (fun r2 hr => ?_)
      refine am_blk (pc' := 33) (Ls' := [.val (.ref 0), .val (.int x1), .val (.int r1.1), .val (.int r2.1)]) (St' := [.int r2.1, .int r1.1, .ref 0]) (σ' := r2.2) [.istore_n 3, .aload_n 0, .iload_n 2, .iload_n 3] (by decide +kernel) hc hT hF wi (by exact rfl) ?_
      refine am_callP_I (W0 := 0) (argsL := [.int r1.1, .int r2.1]) (rest := []) rfl (lk_C_108 hw) rfl wi (by decide +kernel) hc (SubW.refl _) rfl (by show arity "(II)Z" 2 = true; decide +kernel) (ok_c_slotLive hw r1.1 r2.1 _) rfl ⟨by decide, by decide, Nat.le_of_eq rfl, rfl, rfl, by decide, by decide⟩ (fun r3 hr => ?_)
      refine am_if_ne (o := 5) (pc1 := 41) (by decide +kernel) hc (fun hq => ?_) (fun hq => ?_)
      · refine am_blk (pc' := 40) (Ls' := [.val (.ref 0), .val (.int x1), .val (.int r1.1), .val (.int r2.1)]) (St' := [.int (0 : Int32)]) (σ' := r3.2) [.iconst 0] (by decide +kernel) hc hT hF wi (by exact rfl) ?_
        exact am_retI (by decide +kernel) hc (by decide) (by decide) (fun h W O => ⟨rfl, W, O⟩)
      · refine am_blk (pc' := 44) (Ls' := [.val (.ref 0), .val (.int x1), .val (.int r1.1), .val (.int r2.1)]) (St' := [.int r2.1, .int r1.1, .ref 0]) (σ' := r3.2) [.aload_n 0, .iload_n 2, .iload_n 3] (by decide +kernel) hc hT hF wi (by exact rfl) ?_
        refine am_callP_I (W0 := 0) (argsL := [.int r1.1, .int r2.1]) (rest := []) rfl (lk_C_88 hw) rfl wi (by decide +kernel) hc (SubW.refl _) rfl (by show arity "(II)I" 2 = true; decide +kernel) (ok_c_slotStart hw r1.1 r2.1 _) rfl ⟨by decide, by decide, Nat.le_of_eq rfl, rfl, rfl, by decide, by decide⟩ (fun r4 hr => ?_)
        exact am_retI (by decide +kernel) hc (by decide) (by decide) (fun h W O => ⟨rfl, W, O⟩)
abbrev rm_c_load : Room := { frames := 2, cells := 0, slots := 0, locals := 30 }
def c_load (x1 : Int32) (σ : Sg) : Option (Int32 × Sg) :=
  (c_findStart x1 σ).bind fun r1 => if r1.1 = 0 then (some ((0 : Int32), r1.2)) else (if (x1 - (4096 : Int32)) < 0 then (some ((0 : Int32), r1.2)) else (if (x1 - (4096 : Int32)) < (256 : Int32) then (if inb (x1 - (4096 : Int32)) 256 = true then (some (gi r1.2 2 (nx (x1 - (4096 : Int32))), r1.2)) else none) else (some ((0 : Int32), r1.2))))
set_option maxRecDepth 65536 in
set_option maxHeartbeats 4000000 in
theorem ok_c_load (hw : WH a0 Z) (x1 : Int32) (σ : Sg) : ∀ x, c_load x1 σ = some x → Con l Z "ConservativeBiY" fsC (⟨"ConservativeBiY", "load", "(I)I"⟩ : MethodName) prog_1_method_18_code 4 (some .int) rm_c_load wC [.ref 0, .int x1] σ (fI x).1 (fI x).2 := by
  refine am_con pnC ?_
  intro p e s m below meth c A n0 h0 hc
  have hT := tabC hw "load"
  have hF := fsokC hw
  have wi := wiC hw
  unfold c_load
  refine am_blk (pc' := 2) (Ls' := [.val (.ref 0), .val (.int x1), .unset, .unset]) (St' := [.int x1, .ref 0]) (σ' := σ) [.aload_n 0, .iload_n 1] (by decide +kernel) hc hT hF wi (by exact rfl) ?_
  refine am_callP_I (W0 := 0) (argsL := [.int x1]) (rest := []) rfl (lk_C_99 hw) rfl wi (by decide +kernel) hc (SubW.refl _) rfl (by show arity "(I)I" 1 = true; decide +kernel) (ok_c_findStart hw x1 _) rfl ⟨by decide, by decide, Nat.le_of_eq rfl, rfl, rfl, by decide, by decide⟩ (fun r1 hr => ?_)
  refine am_blk (pc' := 7) (Ls' := [.val (.ref 0), .val (.int x1), .val (.int r1.1), .unset]) (St' := [.int r1.1]) (σ' := r1.2) [.istore_n 2, .iload_n 2] (by decide +kernel) hc hT hF wi (by exact rfl) ?_
  refine am_if_ne (o := 5) (pc1 := 12) (by decide +kernel) hc (fun hq => ?_) (fun hq => ?_)
  · refine am_blk (pc' := 11) (Ls' := [.val (.ref 0), .val (.int x1), .val (.int r1.1), .unset]) (St' := [.int (0 : Int32)]) (σ' := r1.2) [.iconst 0] (by decide +kernel) hc hT hF wi (by exact rfl) ?_
    exact am_retI (by decide +kernel) hc (by decide) (by decide) (fun h W O => ⟨rfl, W, O⟩)
  · refine am_blk (pc' := 19) (Ls' := [.val (.ref 0), .val (.int x1), .val (.int r1.1), .val (.int (x1 - (4096 : Int32)))]) (St' := [.int (x1 - (4096 : Int32))]) (σ' := r1.2) [.iload_n 1, .sipush 4096, .isub, .istore_n 3, .iload_n 3] (by decide +kernel) hc hT hF wi (by exact rfl) ?_
    refine am_if_lt (o := 10) (pc1 := 29) (by decide +kernel) hc (fun hq => ?_) (fun hq => ?_)
    · refine am_blk (pc' := 30) (Ls' := [.val (.ref 0), .val (.int x1), .val (.int r1.1), .val (.int (x1 - (4096 : Int32)))]) (St' := [.int (0 : Int32)]) (σ' := r1.2) [.iconst 0] (by decide +kernel) hc hT hF wi (by exact rfl) ?_
      exact am_retI (by decide +kernel) hc (by decide) (by decide) (fun h W O => ⟨rfl, W, O⟩)
    · refine am_blk (pc' := 26) (Ls' := [.val (.ref 0), .val (.int x1), .val (.int r1.1), .val (.int (x1 - (4096 : Int32)))]) (St' := [.int (256 : Int32), .int (x1 - (4096 : Int32))]) (σ' := r1.2) [.iload_n 3, .sipush 256] (by decide +kernel) hc hT hF wi (by exact rfl) ?_
      refine am_icmp_lt (o := 5) (pc1 := 31) (by decide +kernel) hc (fun hq => ?_) (fun hq => ?_)
      · refine am_blk (pc' := 36) (Ls' := [.val (.ref 0), .val (.int x1), .val (.int r1.1), .val (.int (x1 - (4096 : Int32)))]) (St' := [.int (x1 - (4096 : Int32)), .ref 2]) (σ' := r1.2) [.aload_n 0, .getfield 13, .iload_n 3] (by decide +kernel) hc hT hF wi (by exact rfl) ?_
        refine am_iaload (by decide +kernel) hc rfl (fun hb0 => ?_)
        exact am_retI (by decide +kernel) hc (by decide) (by decide) (fun h W O => ⟨rfl, W, O⟩)
      · refine am_blk (pc' := 30) (Ls' := [.val (.ref 0), .val (.int x1), .val (.int r1.1), .val (.int (x1 - (4096 : Int32)))]) (St' := [.int (0 : Int32)]) (σ' := r1.2) [.iconst 0] (by decide +kernel) hc hT hF wi (by exact rfl) ?_
        exact am_retI (by decide +kernel) hc (by decide) (by decide) (fun h W O => ⟨rfl, W, O⟩)
abbrev rm_c_objectStart : Room := { frames := 2, cells := 0, slots := 0, locals := 30 }
def c_objectStart (x1 : Int32) (σ : Sg) : Option (Int32 × Sg) :=
  (c_findStart x1 σ).bind fun r1 => some (r1.1, r1.2)
set_option maxRecDepth 65536 in
set_option maxHeartbeats 4000000 in
theorem ok_c_objectStart (hw : WH a0 Z) (x1 : Int32) (σ : Sg) : ∀ x, c_objectStart x1 σ = some x → Con l Z "ConservativeBiY" fsC (⟨"ConservativeBiY", "objectStart", "(I)I"⟩ : MethodName) prog_1_method_33_code 2 (some .int) rm_c_objectStart wC [.ref 0, .int x1] σ (fI x).1 (fI x).2 := by
  refine am_con pnC ?_
  intro p e s m below meth c A n0 h0 hc
  have hT := tabC hw "objectStart"
  have hF := fsokC hw
  have wi := wiC hw
  unfold c_objectStart
  refine am_blk (pc' := 2) (Ls' := [.val (.ref 0), .val (.int x1)]) (St' := [.int x1, .ref 0]) (σ' := σ) [.aload_n 0, .iload_n 1] (by decide +kernel) hc hT hF wi (by exact rfl) ?_
  refine am_callP_I (W0 := 0) (argsL := [.int x1]) (rest := []) rfl (lk_C_99 hw) rfl wi (by decide +kernel) hc (SubW.refl _) rfl (by show arity "(I)I" 1 = true; decide +kernel) (ok_c_findStart hw x1 _) rfl ⟨by decide, by decide, Nat.le_of_eq rfl, rfl, rfl, by decide, by decide⟩ (fun r1 hr => ?_)
  exact am_retI (by decide +kernel) hc (by decide) (by decide) (fun h W O => ⟨rfl, W, O⟩)
abbrev rm_c_objectSize : Room := { frames := 2, cells := 0, slots := 0, locals := 30 }
def c_objectSize (x1 : Int32) (σ : Sg) : Option (Int32 × Sg) :=
  (c_findStart x1 σ).bind fun r1 => if r1.1 = 0 then (some ((0 : Int32), r1.2)) else ((c_pageOf x1 r1.2).bind fun r2 => if r2.1 < 0 then (some ((0 : Int32), r2.2)) else (if inb r2.1 16 = true then (some (gi r2.2 3 (nx r2.1), r2.2)) else none))
set_option maxRecDepth 65536 in
set_option maxHeartbeats 4000000 in
theorem ok_c_objectSize (hw : WH a0 Z) (x1 : Int32) (σ : Sg) : ∀ x, c_objectSize x1 σ = some x → Con l Z "ConservativeBiY" fsC (⟨"ConservativeBiY", "objectSize", "(I)I"⟩ : MethodName) prog_1_method_34_code 4 (some .int) rm_c_objectSize wC [.ref 0, .int x1] σ (fI x).1 (fI x).2 := by
  refine am_con pnC ?_
  intro p e s m below meth c A n0 h0 hc
  have hT := tabC hw "objectSize"
  have hF := fsokC hw
  have wi := wiC hw
  unfold c_objectSize
  refine am_blk (pc' := 2) (Ls' := [.val (.ref 0), .val (.int x1), .unset, .unset]) (St' := [.int x1, .ref 0]) (σ' := σ) [.aload_n 0, .iload_n 1] (by decide +kernel) hc hT hF wi (by exact rfl) ?_
  refine am_callP_I (W0 := 0) (argsL := [.int x1]) (rest := []) rfl (lk_C_99 hw) rfl wi (by decide +kernel) hc (SubW.refl _) rfl (by show arity "(I)I" 1 = true; decide +kernel) (ok_c_findStart hw x1 _) rfl ⟨by decide, by decide, Nat.le_of_eq rfl, rfl, rfl, by decide, by decide⟩ (fun r1 hr => ?_)
  refine am_blk (pc' := 7) (Ls' := [.val (.ref 0), .val (.int x1), .val (.int r1.1), .unset]) (St' := [.int r1.1]) (σ' := r1.2) [.istore_n 2, .iload_n 2] (by decide +kernel) hc hT hF wi (by exact rfl) ?_
  refine am_if_ne (o := 5) (pc1 := 12) (by decide +kernel) hc (fun hq => ?_) (fun hq => ?_)
  · refine am_blk (pc' := 11) (Ls' := [.val (.ref 0), .val (.int x1), .val (.int r1.1), .unset]) (St' := [.int (0 : Int32)]) (σ' := r1.2) [.iconst 0] (by decide +kernel) hc hT hF wi (by exact rfl) ?_
    exact am_retI (by decide +kernel) hc (by decide) (by decide) (fun h W O => ⟨rfl, W, O⟩)
  · refine am_blk (pc' := 14) (Ls' := [.val (.ref 0), .val (.int x1), .val (.int r1.1), .unset]) (St' := [.int x1, .ref 0]) (σ' := r1.2) [.aload_n 0, .iload_n 1] (by decide +kernel) hc hT hF wi (by exact rfl) ?_
    refine am_callP_I (W0 := 0) (argsL := [.int x1]) (rest := []) rfl (lk_C_102 hw) rfl wi (by decide +kernel) hc (SubW.refl _) rfl (by show arity "(I)I" 1 = true; decide +kernel) (ok_c_pageOf hw x1 _) rfl ⟨by decide, by decide, Nat.le_of_eq rfl, rfl, rfl, by decide, by decide⟩ (fun r2 hr => ?_)
    refine am_blk (pc' := 19) (Ls' := [.val (.ref 0), .val (.int x1), .val (.int r1.1), .val (.int r2.1)]) (St' := [.int r2.1]) (σ' := r2.2) [.istore_n 3, .iload_n 3] (by decide +kernel) hc hT hF wi (by exact rfl) ?_
    refine am_if_ge (o := 5) (pc1 := 24) (by decide +kernel) hc (fun hq => ?_) (fun hq => ?_)
    · refine am_blk (pc' := 23) (Ls' := [.val (.ref 0), .val (.int x1), .val (.int r1.1), .val (.int r2.1)]) (St' := [.int (0 : Int32)]) (σ' := r2.2) [.iconst 0] (by decide +kernel) hc hT hF wi (by exact rfl) ?_
      exact am_retI (by decide +kernel) hc (by decide) (by decide) (fun h W O => ⟨rfl, W, O⟩)
    · refine am_blk (pc' := 29) (Ls' := [.val (.ref 0), .val (.int x1), .val (.int r1.1), .val (.int r2.1)]) (St' := [.int r2.1, .ref 3]) (σ' := r2.2) [.aload_n 0, .getfield 16, .iload_n 3] (by decide +kernel) hc hT hF wi (by exact rfl) ?_
      refine am_iaload (by decide +kernel) hc rfl (fun hb0 => ?_)
      exact am_retI (by decide +kernel) hc (by decide) (by decide) (fun h W O => ⟨rfl, W, O⟩)
abbrev rm_c_pageValid : Room := { frames := 0, cells := 0, slots := 0, locals := 0 }
def c_pageValid (x1 : Int32) (σ : Sg) : Option (Int32 × Sg) :=
  if x1 < 0 then (some ((0 : Int32), σ)) else (if x1 < (gi σ 0 10) then (if x1 < (16 : Int32) then (some ((1 : Int32), σ)) else (some ((0 : Int32), σ))) else (some ((0 : Int32), σ)))
set_option maxRecDepth 65536 in
set_option maxHeartbeats 4000000 in
theorem ok_c_pageValid (hw : WH a0 Z) (x1 : Int32) (σ : Sg) : ∀ x, c_pageValid x1 σ = some x → Con l Z "ConservativeBiY" fsC (⟨"ConservativeBiY", "pageValid", "(I)Z"⟩ : MethodName) prog_1_method_39_code 2 (some .boolean) rm_c_pageValid wC [.ref 0, .int x1] σ (fI x).1 (fI x).2 := by
  refine am_con pnC ?_
  intro p e s m below meth c A n0 h0 hc
  have hT := tabC hw "pageValid"
  have hF := fsokC hw
  have wi := wiC hw
  unfold c_pageValid
  refine am_blk (pc' := 1) (Ls' := [.val (.ref 0), .val (.int x1)]) (St' := [.int x1]) (σ' := σ) [.iload_n 1] (by decide +kernel) hc hT hF wi (by exact rfl) ?_
  refine am_if_lt (o := 21) (pc1 := 22) (by decide +kernel) hc (fun hq => ?_) (fun hq => ?_)
  · refine am_blk (pc' := 23) (Ls' := [.val (.ref 0), .val (.int x1)]) (St' := [.int (0 : Int32)]) (σ' := σ) [.iconst 0] (by decide +kernel) hc hT hF wi (by exact rfl) ?_
    exact am_retZ (by decide +kernel) hc (by decide) (by decide) (fun h W O => ⟨rfl, W, O⟩)
  · refine am_blk (pc' := 9) (Ls' := [.val (.ref 0), .val (.int x1)]) (St' := [.int (gi σ 0 10), .int x1]) (σ' := σ) [.iload_n 1, .aload_n 0, .getfield 41] (by decide +kernel) hc hT hF wi (by exact rfl) ?_
    refine am_icmp_ge (o := 13) (pc1 := 22) (by decide +kernel) hc (fun hq => ?_) (fun hq => ?_)
    · refine am_blk (pc' := 15) (Ls' := [.val (.ref 0), .val (.int x1)]) (St' := [.int (16 : Int32), .int x1]) (σ' := σ) [.iload_n 1, .bipush 16] (by decide +kernel) hc hT hF wi (by exact rfl) ?_
      refine am_icmp_ge (o := 7) (pc1 := 22) (by decide +kernel) hc (fun hq => ?_) (fun hq => ?_)
      · refine am_blk (pc' := 23) (Ls' := [.val (.ref 0), .val (.int x1)]) (St' := [.int (1 : Int32)]) (σ' := σ) [.iconst 1, .goto 4] (by decide +kernel) hc hT hF wi (by exact rfl) ?_
        exact am_retZ (by decide +kernel) hc (by decide) (by decide) (fun h W O => ⟨rfl, W, O⟩)
      · refine am_blk (pc' := 23) (Ls' := [.val (.ref 0), .val (.int x1)]) (St' := [.int (0 : Int32)]) (σ' := σ) [.iconst 0] (by decide +kernel) hc hT hF wi (by exact rfl) ?_
        exact am_retZ (by decide +kernel) hc (by decide) (by decide) (fun h W O => ⟨rfl, W, O⟩)
    · refine am_blk (pc' := 23) (Ls' := [.val (.ref 0), .val (.int x1)]) (St' := [.int (0 : Int32)]) (σ' := σ) [.iconst 0] (by decide +kernel) hc hT hF wi (by exact rfl) ?_
      exact am_retZ (by decide +kernel) hc (by decide) (by decide) (fun h W O => ⟨rfl, W, O⟩)
abbrev rm_c_pageClass : Room := { frames := 1, cells := 0, slots := 0, locals := 13 }
def c_pageClass (x1 : Int32) (σ : Sg) : Option (Int32 × Sg) :=
  (c_pageValid x1 σ).bind fun r1 => if r1.1 = 0 then (some ((-1 : Int32), r1.2)) else (if inb x1 16 = true then (some (gi r1.2 3 (nx x1), r1.2)) else none)
set_option maxRecDepth 65536 in
set_option maxHeartbeats 4000000 in
theorem ok_c_pageClass (hw : WH a0 Z) (x1 : Int32) (σ : Sg) : ∀ x, c_pageClass x1 σ = some x → Con l Z "ConservativeBiY" fsC (⟨"ConservativeBiY", "pageClass", "(I)I"⟩ : MethodName) prog_1_method_35_code 2 (some .int) rm_c_pageClass wC [.ref 0, .int x1] σ (fI x).1 (fI x).2 := by
  refine am_con pnC ?_
  intro p e s m below meth c A n0 h0 hc
  have hT := tabC hw "pageClass"
  have hF := fsokC hw
  have wi := wiC hw
  unfold c_pageClass
  refine am_blk (pc' := 2) (Ls' := [.val (.ref 0), .val (.int x1)]) (St' := [.int x1, .ref 0]) (σ' := σ) [.aload_n 0, .iload_n 1] (by decide +kernel) hc hT hF wi (by exact rfl) ?_
  refine am_callP_I (W0 := 0) (argsL := [.int x1]) (rest := []) rfl (lk_C_149 hw) rfl wi (by decide +kernel) hc (SubW.refl _) rfl (by show arity "(I)Z" 1 = true; decide +kernel) (ok_c_pageValid hw x1 _) rfl ⟨by decide, by decide, Nat.le_of_eq rfl, rfl, rfl, by decide, by decide⟩ (fun r1 hr => ?_)
  refine am_if_ne (o := 5) (pc1 := 10) (by decide +kernel) hc (fun hq => ?_) (fun hq => ?_)
  · refine am_blk (pc' := 9) (Ls' := [.val (.ref 0), .val (.int x1)]) (St' := [.int (-1 : Int32)]) (σ' := r1.2) [.iconst (-1)] (by decide +kernel) hc hT hF wi (by exact rfl) ?_
    exact am_retI (by decide +kernel) hc (by decide) (by decide) (fun h W O => ⟨rfl, W, O⟩)
  · refine am_blk (pc' := 15) (Ls' := [.val (.ref 0), .val (.int x1)]) (St' := [.int x1, .ref 3]) (σ' := r1.2) [.aload_n 0, .getfield 16, .iload_n 1] (by decide +kernel) hc hT hF wi (by exact rfl) ?_
    refine am_iaload (by decide +kernel) hc rfl (fun hb0 => ?_)
    exact am_retI (by decide +kernel) hc (by decide) (by decide) (fun h W O => ⟨rfl, W, O⟩)
abbrev rm_c_pageLiveCount : Room := { frames := 1, cells := 0, slots := 0, locals := 13 }
def c_pageLiveCount (x1 : Int32) (σ : Sg) : Option (Int32 × Sg) :=
  (c_pageValid x1 σ).bind fun r1 => if r1.1 = 0 then (some ((-1 : Int32), r1.2)) else (if inb x1 16 = true then (some (gi r1.2 6 (nx x1), r1.2)) else none)
set_option maxRecDepth 65536 in
set_option maxHeartbeats 4000000 in
theorem ok_c_pageLiveCount (hw : WH a0 Z) (x1 : Int32) (σ : Sg) : ∀ x, c_pageLiveCount x1 σ = some x → Con l Z "ConservativeBiY" fsC (⟨"ConservativeBiY", "pageLiveCount", "(I)I"⟩ : MethodName) prog_1_method_36_code 2 (some .int) rm_c_pageLiveCount wC [.ref 0, .int x1] σ (fI x).1 (fI x).2 := by
  refine am_con pnC ?_
  intro p e s m below meth c A n0 h0 hc
  have hT := tabC hw "pageLiveCount"
  have hF := fsokC hw
  have wi := wiC hw
  unfold c_pageLiveCount
  refine am_blk (pc' := 2) (Ls' := [.val (.ref 0), .val (.int x1)]) (St' := [.int x1, .ref 0]) (σ' := σ) [.aload_n 0, .iload_n 1] (by decide +kernel) hc hT hF wi (by exact rfl) ?_
  refine am_callP_I (W0 := 0) (argsL := [.int x1]) (rest := []) rfl (lk_C_149 hw) rfl wi (by decide +kernel) hc (SubW.refl _) rfl (by show arity "(I)Z" 1 = true; decide +kernel) (ok_c_pageValid hw x1 _) rfl ⟨by decide, by decide, Nat.le_of_eq rfl, rfl, rfl, by decide, by decide⟩ (fun r1 hr => ?_)
  refine am_if_ne (o := 5) (pc1 := 10) (by decide +kernel) hc (fun hq => ?_) (fun hq => ?_)
  · refine am_blk (pc' := 9) (Ls' := [.val (.ref 0), .val (.int x1)]) (St' := [.int (-1 : Int32)]) (σ' := r1.2) [.iconst (-1)] (by decide +kernel) hc hT hF wi (by exact rfl) ?_
    exact am_retI (by decide +kernel) hc (by decide) (by decide) (fun h W O => ⟨rfl, W, O⟩)
  · refine am_blk (pc' := 15) (Ls' := [.val (.ref 0), .val (.int x1)]) (St' := [.int x1, .ref 6]) (σ' := r1.2) [.aload_n 0, .getfield 25, .iload_n 1] (by decide +kernel) hc hT hF wi (by exact rfl) ?_
    refine am_iaload (by decide +kernel) hc rfl (fun hb0 => ?_)
    exact am_retI (by decide +kernel) hc (by decide) (by decide) (fun h W O => ⟨rfl, W, O⟩)
abbrev rm_c_isBlacklisted : Room := { frames := 1, cells := 0, slots := 0, locals := 13 }
def c_isBlacklisted (x1 : Int32) (σ : Sg) : Option (Int32 × Sg) :=
  (c_pageValid x1 σ).bind fun r1 => if r1.1 = 0 then (some ((0 : Int32), r1.2)) else (if inb x1 16 = true then (some ((gi r1.2 7 (nx x1)) &&& 1, r1.2)) else none)
set_option maxRecDepth 65536 in
set_option maxHeartbeats 4000000 in
theorem ok_c_isBlacklisted (hw : WH a0 Z) (x1 : Int32) (σ : Sg) : ∀ x, c_isBlacklisted x1 σ = some x → Con l Z "ConservativeBiY" fsC (⟨"ConservativeBiY", "isBlacklisted", "(I)Z"⟩ : MethodName) prog_1_method_37_code 2 (some .boolean) rm_c_isBlacklisted wC [.ref 0, .int x1] σ (fI x).1 (fI x).2 := by
  refine am_con pnC ?_
  intro p e s m below meth c A n0 h0 hc
  have hT := tabC hw "isBlacklisted"
  have hF := fsokC hw
  have wi := wiC hw
  unfold c_isBlacklisted
  refine am_blk (pc' := 2) (Ls' := [.val (.ref 0), .val (.int x1)]) (St' := [.int x1, .ref 0]) (σ' := σ) [.aload_n 0, .iload_n 1] (by decide +kernel) hc hT hF wi (by exact rfl) ?_
  refine am_callP_I (W0 := 0) (argsL := [.int x1]) (rest := []) rfl (lk_C_149 hw) rfl wi (by decide +kernel) hc (SubW.refl _) rfl (by show arity "(I)Z" 1 = true; decide +kernel) (ok_c_pageValid hw x1 _) rfl ⟨by decide, by decide, Nat.le_of_eq rfl, rfl, rfl, by decide, by decide⟩ (fun r1 hr => ?_)
  refine am_if_ne (o := 5) (pc1 := 10) (by decide +kernel) hc (fun hq => ?_) (fun hq => ?_)
  · refine am_blk (pc' := 9) (Ls' := [.val (.ref 0), .val (.int x1)]) (St' := [.int (0 : Int32)]) (σ' := r1.2) [.iconst 0] (by decide +kernel) hc hT hF wi (by exact rfl) ?_
    exact am_retZ (by decide +kernel) hc (by decide) (by decide) (fun h W O => ⟨rfl, W, O⟩)
  · refine am_blk (pc' := 15) (Ls' := [.val (.ref 0), .val (.int x1)]) (St' := [.int x1, .ref 7]) (σ' := r1.2) [.aload_n 0, .getfield 28, .iload_n 1] (by decide +kernel) hc hT hF wi (by exact rfl) ?_
    refine am_baloadZ (by decide +kernel) hc rfl (fun hb0 => ?_)
    exact am_retZ (by decide +kernel) hc (by decide) (by decide) (fun h W O => ⟨rfl, W, O⟩)
abbrev rm_c_liveObjects : Room := { frames := 0, cells := 0, slots := 0, locals := 0 }
def c_liveObjects (σ : Sg) : Option (Int32 × Sg) :=
  some (gi σ 0 15, σ)
set_option maxRecDepth 65536 in
set_option maxHeartbeats 4000000 in
theorem ok_c_liveObjects (hw : WH a0 Z) (σ : Sg) : ∀ x, c_liveObjects σ = some x → Con l Z "ConservativeBiY" fsC (⟨"ConservativeBiY", "liveObjects", "()I"⟩ : MethodName) prog_1_method_38_code 1 (some .int) rm_c_liveObjects wC [.ref 0] σ (fI x).1 (fI x).2 := by
  refine am_con pnC ?_
  intro p e s m below meth c A n0 h0 hc
  have hT := tabC hw "liveObjects"
  have hF := fsokC hw
  have wi := wiC hw
  unfold c_liveObjects
  refine am_blk (pc' := 4) (Ls' := [.val (.ref 0)]) (St' := [.int (gi σ 0 15)]) (σ' := σ) [.aload_n 0, .getfield 61] (by decide +kernel) hc hT hF wi (by exact rfl) ?_
  exact am_retI (by decide +kernel) hc (by decide) (by decide) (fun h W O => ⟨rfl, W, O⟩)
abbrev rm_q_fp : Room := { frames := 3, cells := 0, slots := 0, locals := 47 }
def q_fp_139 (k90 : Int64 → Int32 → Sg → Option (Int64 × Sg)) (x3 : Int32) (s0 : Int32) (s1 : Int64) (σ : Sg) : Option (Int64 × Sg) :=
  k90 (s1 + s0.toInt64) (x3 + (1 : Int32)) σ
set_option maxRecDepth 65536 in
set_option maxHeartbeats 4000000 in
theorem okc_q_fp_139 (hw : WH a0 Z) (hc : Cx p s m meth c Z "ConservativeBiYL7" method_3_code 4 (some .long) "fp") (k90 : Int64 → Int32 → Sg → Option (Int64 × Sg)) (hk90 : ∀ (y1 : Int64) (x3 : Int32) (σ : Sg), OkR p l e rm_q_fp s m args below meth c Z "ConservativeBiY" fsC n0 h0 (FM Z "ConservativeBiY" fsC A wC h0 fJ) A wC 0 0 90 [.val (.ref 0), .val (.long y1), .unset, .val (.int x3)] [] σ (k90 y1 x3 σ)) (x3 : Int32) (s0 : Int32) (s1 : Int64) (σ : Sg) : OkR p l e rm_q_fp s m args below meth c Z "ConservativeBiY" fsC n0 h0 (FM Z "ConservativeBiY" fsC A wC h0 fJ) A wC 0 0 139 [.val (.ref 0), .unset, .unset, .val (.int x3)] [.int s0, .long s1] σ (q_fp_139 k90 x3 s0 s1 σ) := by
  have hT := tabL hw "fp"
  have hF := fsokC hw
  have wi := wiC hw
  unfold q_fp_139
  refine am_blk (pc' := 90) (Ls' := [.val (.ref 0), .val (.long (s1 + s0.toInt64)), .second, .val (.int (x3 + (1 : Int32)))]) (St' := []) (σ' := σ) [.i2l, .ladd, .lstore_n 1, .iinc 3 1, .goto (-55)] (by decide +kernel) hc hT hF wi (by exact rfl) ?_
  exact am_wk (Ls' := [.val (.ref 0), .val (.long (s1 + s0.toInt64)), .unset, .val (.int (x3 + (1 : Int32)))]) (by simp [wkL]) (hk90 (s1 + s0.toInt64) (x3 + (1 : Int32)) σ)
def q_fp_90 : Nat → Int64 → Int32 → Sg → Option (Int64 × Sg)
  | 0, _, _, _ => none
  | fuel + 1, y1, x3, σ =>
    if x3 < (4 : Int32) then ((c_pageClass x3 σ).bind fun r1 => (c_pageLiveCount x3 r1.2).bind fun r2 => (c_isBlacklisted x3 r2.2).bind fun r3 => if r3.1 = 0 then (q_fp_139 (q_fp_90 fuel) x3 (0 : Int32) (((((y1 * (31 : Int64)) + r1.1.toInt64) * (31 : Int64)) + r2.1.toInt64) * (31 : Int64)) r3.2) else (q_fp_139 (q_fp_90 fuel) x3 (1 : Int32) (((((y1 * (31 : Int64)) + r1.1.toInt64) * (31 : Int64)) + r2.1.toInt64) * (31 : Int64)) r3.2)) else ((c_liveObjects σ).bind fun r4 => some ((y1 * (31 : Int64)) + r4.1.toInt64, r4.2))
set_option maxRecDepth 65536 in
set_option maxHeartbeats 4000000 in
theorem okc_q_fp_90 (hw : WH a0 Z) (hc : Cx p s m meth c Z "ConservativeBiYL7" method_3_code 4 (some .long) "fp") : ∀ (fuel : Nat) (y1 : Int64) (x3 : Int32) (σ : Sg), OkR p l e rm_q_fp s m args below meth c Z "ConservativeBiY" fsC n0 h0 (FM Z "ConservativeBiY" fsC A wC h0 fJ) A wC 0 0 90 [.val (.ref 0), .val (.long y1), .unset, .val (.int x3)] [] σ (q_fp_90 fuel y1 x3 σ) := by
  have hT := tabL hw "fp"
  have hF := fsokC hw
  have wi := wiC hw
  intro fuel
  induction fuel with
  | zero => intro y1 x3 σ; exact am_none rfl
  | succ fuel ih =>
    intro y1 x3 σ
    rw [q_fp_90]
    refine am_blk (pc' := 92) (Ls' := [.val (.ref 0), .val (.long y1), .unset, .val (.int x3)]) (St' := [.int (4 : Int32), .int x3]) (σ' := σ) [.iload_n 3, .iconst 4] (by decide +kernel) hc hT hF wi (by exact rfl) ?_
    refine am_icmp_ge (o := 56) (pc1 := 148) (by decide +kernel) hc (fun hq => ?_) (fun hq => ?_)
    · refine am_blk (pc' := 102) (Ls' := [.val (.ref 0), .val (.long y1), .unset, .val (.int x3)]) (St' := [.int x3, .ref 0, .long (y1 * (31 : Int64))]) (σ' := σ) [.lload_n 1, .ldc2_w 48, .lmul, .aload_n 0, .iload_n 3] (by decide +kernel) hc hT hF wi (by exact rfl) ?_
      refine am_callV_I (W0 := 2) (argsL := [.int x3]) (rest := [.long (y1 * (31 : Int64))]) rfl (lk_L_62 hw) rfl (by decide +kernel) hc (SubW.refl _) rfl (by show arity "(I)I" 1 = true; decide +kernel) (ok_c_pageClass hw x3 _) rfl ⟨by decide, by decide, Nat.le_of_eq rfl, rfl, rfl, by decide, by decide⟩ (fun r1 hr => ?_)
      refine am_blk (pc' := 115) (Ls' := [.val (.ref 0), .val (.long ((y1 * (31 : Int64)) + r1.1.toInt64)), .second, .val (.int x3)]) (St' := [.int x3, .ref 0, .long (((y1 * (31 : Int64)) + r1.1.toInt64) * (31 : Int64))]) (σ' := r1.2) [.i2l, .ladd, .lstore_n 1, .lload_n 1, .ldc2_w 48, .lmul, .aload_n 0, .iload_n 3] (by decide +kernel) hc hT hF wi (by exact rfl) ?_
      refine am_callV_I (W0 := 2) (argsL := [.int x3]) (rest := [.long (((y1 * (31 : Int64)) + r1.1.toInt64) * (31 : Int64))]) rfl (lk_L_65 hw) rfl (by decide +kernel) hc (SubW.refl _) rfl (by show arity "(I)I" 1 = true; decide +kernel) (ok_c_pageLiveCount hw x3 _) rfl ⟨by decide, by decide, Nat.le_of_eq rfl, rfl, rfl, by decide, by decide⟩ (fun r2 hr => ?_)
      refine am_blk (pc' := 128) (Ls' := [.val (.ref 0), .val (.long ((((y1 * (31 : Int64)) + r1.1.toInt64) * (31 : Int64)) + r2.1.toInt64)), .second, .val (.int x3)]) (St' := [.int x3, .ref 0, .long (((((y1 * (31 : Int64)) + r1.1.toInt64) * (31 : Int64)) + r2.1.toInt64) * (31 : Int64))]) (σ' := r2.2) [.i2l, .ladd, .lstore_n 1, .lload_n 1, .ldc2_w 48, .lmul, .aload_n 0, .iload_n 3] (by decide +kernel) hc hT hF wi (by exact rfl) ?_
      refine am_callV_I (W0 := 2) (argsL := [.int x3]) (rest := [.long (((((y1 * (31 : Int64)) + r1.1.toInt64) * (31 : Int64)) + r2.1.toInt64) * (31 : Int64))]) rfl (lk_L_68 hw) rfl (by decide +kernel) hc (SubW.refl _) rfl (by show arity "(I)Z" 1 = true; decide +kernel) (ok_c_isBlacklisted hw x3 _) rfl ⟨by decide, by decide, Nat.le_of_eq rfl, rfl, rfl, by decide, by decide⟩ (fun r3 hr => ?_)
      refine am_if_eq (o := 7) (pc1 := 138) (by decide +kernel) hc (fun hq => ?_) (fun hq => ?_)
      · refine am_blk (pc' := 139) (Ls' := [.val (.ref 0), .val (.long ((((y1 * (31 : Int64)) + r1.1.toInt64) * (31 : Int64)) + r2.1.toInt64)), .second, .val (.int x3)]) (St' := [.int (0 : Int32), .long (((((y1 * (31 : Int64)) + r1.1.toInt64) * (31 : Int64)) + r2.1.toInt64) * (31 : Int64))]) (σ' := r3.2) [.iconst 0] (by decide +kernel) hc hT hF wi (by exact rfl) ?_
        exact am_wk (Ls' := [.val (.ref 0), .unset, .unset, .val (.int x3)]) (by simp [wkL]) (okc_q_fp_139 hw hc _ ih x3 (0 : Int32) (((((y1 * (31 : Int64)) + r1.1.toInt64) * (31 : Int64)) + r2.1.toInt64) * (31 : Int64)) r3.2)
      · refine am_blk (pc' := 139) (Ls' := [.val (.ref 0), .val (.long ((((y1 * (31 : Int64)) + r1.1.toInt64) * (31 : Int64)) + r2.1.toInt64)), .second, .val (.int x3)]) (St' := [.int (1 : Int32), .long (((((y1 * (31 : Int64)) + r1.1.toInt64) * (31 : Int64)) + r2.1.toInt64) * (31 : Int64))]) (σ' := r3.2) [.iconst 1, .goto 4] (by decide +kernel) hc hT hF wi (by exact rfl) ?_
        exact am_wk (Ls' := [.val (.ref 0), .unset, .unset, .val (.int x3)]) (by simp [wkL]) (okc_q_fp_139 hw hc _ ih x3 (1 : Int32) (((((y1 * (31 : Int64)) + r1.1.toInt64) * (31 : Int64)) + r2.1.toInt64) * (31 : Int64)) r3.2)
    · refine am_blk (pc' := 154) (Ls' := [.val (.ref 0), .val (.long y1), .unset, .val (.int x3)]) (St' := [.ref 0, .long (y1 * (31 : Int64))]) (σ' := σ) [.lload_n 1, .ldc2_w 48, .lmul, .aload_n 0] (by decide +kernel) hc hT hF wi (by exact rfl) ?_
      refine am_callV_I (W0 := 2) (argsL := []) (rest := [.long (y1 * (31 : Int64))]) rfl (lk_L_45 hw) rfl (by decide +kernel) hc (SubW.refl _) rfl (by show arity "()I" 0 = true; decide +kernel) (ok_c_liveObjects hw _) rfl ⟨by decide, by decide, Nat.le_of_eq rfl, rfl, rfl, by decide, by decide⟩ (fun r4 hr => ?_)
      refine am_blk (pc' := 161) (Ls' := [.val (.ref 0), .val (.long ((y1 * (31 : Int64)) + r4.1.toInt64)), .second, .val (.int x3)]) (St' := [.long ((y1 * (31 : Int64)) + r4.1.toInt64)]) (σ' := r4.2) [.i2l, .ladd, .lstore_n 1, .lload_n 1] (by decide +kernel) hc hT hF wi (by exact rfl) ?_
      exact am_retJ (by decide +kernel) hc (by decide) (by decide) (fun h W O => ⟨rfl, W, O⟩)
def q_fp_36 : Nat → Int64 → Int32 → Sg → Option (Int64 × Sg)
  | 0, _, _, _ => none
  | fuel + 1, y1, x3, σ =>
    if x3 < (4168 : Int32) then ((c_load x3 σ).bind fun r1 => (c_objectStart x3 r1.2).bind fun r2 => (c_objectSize x3 r2.2).bind fun r3 => q_fp_36 fuel ((((((y1 * (31 : Int64)) + r1.1.toInt64) * (31 : Int64)) + r2.1.toInt64) * (31 : Int64)) + r3.1.toInt64) (x3 + (1 : Int32)) r3.2) else (q_fp_90 400 y1 (0 : Int32) σ)
set_option maxRecDepth 65536 in
set_option maxHeartbeats 4000000 in
theorem okc_q_fp_36 (hw : WH a0 Z) (hc : Cx p s m meth c Z "ConservativeBiYL7" method_3_code 4 (some .long) "fp") : ∀ (fuel : Nat) (y1 : Int64) (x3 : Int32) (σ : Sg), OkR p l e rm_q_fp s m args below meth c Z "ConservativeBiY" fsC n0 h0 (FM Z "ConservativeBiY" fsC A wC h0 fJ) A wC 0 0 36 [.val (.ref 0), .val (.long y1), .unset, .val (.int x3)] [] σ (q_fp_36 fuel y1 x3 σ) := by
  have hT := tabL hw "fp"
  have hF := fsokC hw
  have wi := wiC hw
  intro fuel
  induction fuel with
  | zero => intro y1 x3 σ; exact am_none rfl
  | succ fuel ih =>
    intro y1 x3 σ
    rw [q_fp_36]
    refine am_blk (pc' := 40) (Ls' := [.val (.ref 0), .val (.long y1), .unset, .val (.int x3)]) (St' := [.int (4168 : Int32), .int x3]) (σ' := σ) [.iload_n 3, .sipush 4168] (by decide +kernel) hc hT hF wi (by exact rfl) ?_
    refine am_icmp_ge (o := 48) (pc1 := 88) (by decide +kernel) hc (fun hq => ?_) (fun hq => ?_)
    · refine am_blk (pc' := 50) (Ls' := [.val (.ref 0), .val (.long y1), .unset, .val (.int x3)]) (St' := [.int x3, .ref 0, .long (y1 * (31 : Int64))]) (σ' := σ) [.lload_n 1, .ldc2_w 48, .lmul, .aload_n 0, .iload_n 3] (by decide +kernel) hc hT hF wi (by exact rfl) ?_
      refine am_callV_I (W0 := 2) (argsL := [.int x3]) (rest := [.long (y1 * (31 : Int64))]) rfl (lk_L_53 hw) rfl (by decide +kernel) hc (SubW.refl _) rfl (by show arity "(I)I" 1 = true; decide +kernel) (ok_c_load hw x3 _) rfl ⟨by decide, by decide, Nat.le_of_eq rfl, rfl, rfl, by decide, by decide⟩ (fun r1 hr => ?_)
      refine am_blk (pc' := 63) (Ls' := [.val (.ref 0), .val (.long ((y1 * (31 : Int64)) + r1.1.toInt64)), .second, .val (.int x3)]) (St' := [.int x3, .ref 0, .long (((y1 * (31 : Int64)) + r1.1.toInt64) * (31 : Int64))]) (σ' := r1.2) [.i2l, .ladd, .lstore_n 1, .lload_n 1, .ldc2_w 48, .lmul, .aload_n 0, .iload_n 3] (by decide +kernel) hc hT hF wi (by exact rfl) ?_
      refine am_callV_I (W0 := 2) (argsL := [.int x3]) (rest := [.long (((y1 * (31 : Int64)) + r1.1.toInt64) * (31 : Int64))]) rfl (lk_L_56 hw) rfl (by decide +kernel) hc (SubW.refl _) rfl (by show arity "(I)I" 1 = true; decide +kernel) (ok_c_objectStart hw x3 _) rfl ⟨by decide, by decide, Nat.le_of_eq rfl, rfl, rfl, by decide, by decide⟩ (fun r2 hr => ?_)
      refine am_blk (pc' := 76) (Ls' := [.val (.ref 0), .val (.long ((((y1 * (31 : Int64)) + r1.1.toInt64) * (31 : Int64)) + r2.1.toInt64)), .second, .val (.int x3)]) (St' := [.int x3, .ref 0, .long (((((y1 * (31 : Int64)) + r1.1.toInt64) * (31 : Int64)) + r2.1.toInt64) * (31 : Int64))]) (σ' := r2.2) [.i2l, .ladd, .lstore_n 1, .lload_n 1, .ldc2_w 48, .lmul, .aload_n 0, .iload_n 3] (by decide +kernel) hc hT hF wi (by exact rfl) ?_
      refine am_callV_I (W0 := 2) (argsL := [.int x3]) (rest := [.long (((((y1 * (31 : Int64)) + r1.1.toInt64) * (31 : Int64)) + r2.1.toInt64) * (31 : Int64))]) rfl (lk_L_59 hw) rfl (by decide +kernel) hc (SubW.refl _) rfl (by show arity "(I)I" 1 = true; decide +kernel) (ok_c_objectSize hw x3 _) rfl ⟨by decide, by decide, Nat.le_of_eq rfl, rfl, rfl, by decide, by decide⟩ (fun r3 hr => ?_)
      refine am_blk (pc' := 36) (Ls' := [.val (.ref 0), .val (.long ((((((y1 * (31 : Int64)) + r1.1.toInt64) * (31 : Int64)) + r2.1.toInt64) * (31 : Int64)) + r3.1.toInt64)), .second, .val (.int (x3 + (1 : Int32)))]) (St' := []) (σ' := r3.2) [.i2l, .ladd, .lstore_n 1, .iinc 3 1, .goto (-49)] (by decide +kernel) hc hT hF wi (by exact rfl) ?_
      exact am_wk (Ls' := [.val (.ref 0), .val (.long ((((((y1 * (31 : Int64)) + r1.1.toInt64) * (31 : Int64)) + r2.1.toInt64) * (31 : Int64)) + r3.1.toInt64)), .unset, .val (.int (x3 + (1 : Int32)))]) (by simp [wkL]) (ih ((((((y1 * (31 : Int64)) + r1.1.toInt64) * (31 : Int64)) + r2.1.toInt64) * (31 : Int64)) + r3.1.toInt64) (x3 + (1 : Int32)) r3.2)
    · refine am_blk (pc' := 90) (Ls' := [.val (.ref 0), .val (.long y1), .unset, .val (.int (0 : Int32))]) (St' := []) (σ' := σ) [.iconst 0, .istore_n 3] (by decide +kernel) hc hT hF wi (by exact rfl) ?_
      exact am_wk (Ls' := [.val (.ref 0), .val (.long y1), .unset, .val (.int (0 : Int32))]) (by simp [wkL]) (okc_q_fp_90 hw hc 400 y1 (0 : Int32) σ)
def q_fp_8 : Nat → Int64 → Int32 → Sg → Option (Int64 × Sg)
  | 0, _, _, _ => none
  | fuel + 1, y1, x3, σ =>
    if x3 < (5 : Int32) then ((c_getRoot x3 σ).bind fun r1 => q_fp_8 fuel ((y1 * (31 : Int64)) + r1.1.toInt64) (x3 + (1 : Int32)) r1.2) else (q_fp_36 400 y1 (4088 : Int32) σ)
set_option maxRecDepth 65536 in
set_option maxHeartbeats 4000000 in
theorem okc_q_fp_8 (hw : WH a0 Z) (hc : Cx p s m meth c Z "ConservativeBiYL7" method_3_code 4 (some .long) "fp") : ∀ (fuel : Nat) (y1 : Int64) (x3 : Int32) (σ : Sg), OkR p l e rm_q_fp s m args below meth c Z "ConservativeBiY" fsC n0 h0 (FM Z "ConservativeBiY" fsC A wC h0 fJ) A wC 0 0 8 [.val (.ref 0), .val (.long y1), .unset, .val (.int x3)] [] σ (q_fp_8 fuel y1 x3 σ) := by
  have hT := tabL hw "fp"
  have hF := fsokC hw
  have wi := wiC hw
  intro fuel
  induction fuel with
  | zero => intro y1 x3 σ; exact am_none rfl
  | succ fuel ih =>
    intro y1 x3 σ
    rw [q_fp_8]
    refine am_blk (pc' := 10) (Ls' := [.val (.ref 0), .val (.long y1), .unset, .val (.int x3)]) (St' := [.int (5 : Int32), .int x3]) (σ' := σ) [.iload_n 3, .iconst 5] (by decide +kernel) hc hT hF wi (by exact rfl) ?_
    refine am_icmp_ge (o := 22) (pc1 := 32) (by decide +kernel) hc (fun hq => ?_) (fun hq => ?_)
    · refine am_blk (pc' := 20) (Ls' := [.val (.ref 0), .val (.long y1), .unset, .val (.int x3)]) (St' := [.int x3, .ref 0, .long (y1 * (31 : Int64))]) (σ' := σ) [.lload_n 1, .ldc2_w 48, .lmul, .aload_n 0, .iload_n 3] (by decide +kernel) hc hT hF wi (by exact rfl) ?_
      refine am_callV_I (W0 := 2) (argsL := [.int x3]) (rest := [.long (y1 * (31 : Int64))]) rfl (lk_L_50 hw) rfl (by decide +kernel) hc (SubW.refl _) rfl (by show arity "(I)I" 1 = true; decide +kernel) (ok_c_getRoot hw x3 _) rfl ⟨by decide, by decide, Nat.le_of_eq rfl, rfl, rfl, by decide, by decide⟩ (fun r1 hr => ?_)
      refine am_blk (pc' := 8) (Ls' := [.val (.ref 0), .val (.long ((y1 * (31 : Int64)) + r1.1.toInt64)), .second, .val (.int (x3 + (1 : Int32)))]) (St' := []) (σ' := r1.2) [.i2l, .ladd, .lstore_n 1, .iinc 3 1, .goto (-21)] (by decide +kernel) hc hT hF wi (by exact rfl) ?_
      exact am_wk (Ls' := [.val (.ref 0), .val (.long ((y1 * (31 : Int64)) + r1.1.toInt64)), .unset, .val (.int (x3 + (1 : Int32)))]) (by simp [wkL]) (ih ((y1 * (31 : Int64)) + r1.1.toInt64) (x3 + (1 : Int32)) r1.2)
    · refine am_blk (pc' := 36) (Ls' := [.val (.ref 0), .val (.long y1), .unset, .val (.int (4088 : Int32))]) (St' := []) (σ' := σ) [.sipush 4088, .istore_n 3] (by decide +kernel) hc hT hF wi (by exact rfl) ?_
      exact am_wk (Ls' := [.val (.ref 0), .val (.long y1), .unset, .val (.int (4088 : Int32))]) (by simp [wkL]) (okc_q_fp_36 hw hc 400 y1 (4088 : Int32) σ)
def q_fp (σ : Sg) : Option (Int64 × Sg) :=
  (c_rootDepth σ).bind fun r1 => q_fp_8 400 r1.1.toInt64 (0 : Int32) r1.2
set_option maxRecDepth 65536 in
set_option maxHeartbeats 4000000 in
theorem ok_q_fp (hw : WH a0 Z) (σ : Sg) : ∀ x, q_fp σ = some x → Con l Z "ConservativeBiY" fsC (⟨"ConservativeBiYL7", "fp", "(LConservativeBiY;)J"⟩ : MethodName) method_3_code 4 (some .long) rm_q_fp wC [.ref 0] σ (fJ x).1 (fJ x).2 := by
  refine am_con pnL ?_
  intro p e s m below meth c A n0 h0 hc
  have hT := tabL hw "fp"
  have hF := fsokC hw
  have wi := wiC hw
  unfold q_fp
  refine am_blk (pc' := 1) (Ls' := [.val (.ref 0), .unset, .unset, .unset]) (St' := [.ref 0]) (σ' := σ) [.aload_n 0] (by decide +kernel) hc hT hF wi (by exact rfl) ?_
  refine am_callV_I (W0 := 0) (argsL := []) (rest := []) rfl (lk_L_25 hw) rfl (by decide +kernel) hc (SubW.refl _) rfl (by show arity "()I" 0 = true; decide +kernel) (ok_c_rootDepth hw _) rfl ⟨by decide, by decide, Nat.le_of_eq rfl, rfl, rfl, by decide, by decide⟩ (fun r1 hr => ?_)
  refine am_blk (pc' := 8) (Ls' := [.val (.ref 0), .val (.long r1.1.toInt64), .second, .val (.int (0 : Int32))]) (St' := []) (σ' := r1.2) [.i2l, .lstore_n 1, .iconst 0, .istore_n 3] (by decide +kernel) hc hT hF wi (by exact rfl) ?_
  exact am_wk (Ls' := [.val (.ref 0), .val (.long r1.1.toInt64), .unset, .val (.int (0 : Int32))]) (by simp [wkL]) (okc_q_fp_8 hw hc 400 r1.1.toInt64 (0 : Int32) r1.2)
abbrev rm_c_pushRoot : Room := { frames := 0, cells := 0, slots := 0, locals := 0 }
def c_pushRoot (x1 : Int32) (σ : Sg) : Option (Int32 × Sg) :=
  if (gi σ 0 12) < (gi σ 0 11) then (if (gi σ 0 12) < (32 : Int32) then (if (gi σ 0 12) < 0 then (some ((-1 : Int32), σ)) else (if inb (gi σ 0 12) 32 = true then (some (((gi σ 0 12) + (1 : Int32)), si (si σ 1 (nx (gi σ 0 12)) x1) 0 12 ((gi σ 0 12) + (1 : Int32)))) else none)) else (some ((-1 : Int32), σ))) else (some ((-1 : Int32), σ))
set_option maxRecDepth 65536 in
set_option maxHeartbeats 4000000 in
theorem ok_c_pushRoot (hw : WH a0 Z) (x1 : Int32) (σ : Sg) : ∀ x, c_pushRoot x1 σ = some x → Con l Z "ConservativeBiY" fsC (⟨"ConservativeBiY", "pushRoot", "(I)I"⟩ : MethodName) prog_1_method_2_code 2 (some .int) rm_c_pushRoot wC [.ref 0, .int x1] σ (fI x).1 (fI x).2 := by
  refine am_con pnC ?_
  intro p e s m below meth c A n0 h0 hc
  have hT := tabC hw "pushRoot"
  have hF := fsokC hw
  have wi := wiC hw
  unfold c_pushRoot
  refine am_blk (pc' := 8) (Ls' := [.val (.ref 0), .val (.int x1)]) (St' := [.int (gi σ 0 11), .int (gi σ 0 12)]) (σ' := σ) [.aload_n 0, .getfield 48, .aload_n 0, .getfield 45] (by decide +kernel) hc hT hF wi (by exact rfl) ?_
  refine am_icmp_ge (o := 19) (pc1 := 27) (by decide +kernel) hc (fun hq => ?_) (fun hq => ?_)
  · refine am_blk (pc' := 17) (Ls' := [.val (.ref 0), .val (.int x1)]) (St' := [.int (32 : Int32), .int (gi σ 0 12)]) (σ' := σ) [.aload_n 0, .getfield 48, .bipush 32] (by decide +kernel) hc hT hF wi (by exact rfl) ?_
    refine am_icmp_ge (o := 10) (pc1 := 27) (by decide +kernel) hc (fun hq => ?_) (fun hq => ?_)
    · refine am_blk (pc' := 24) (Ls' := [.val (.ref 0), .val (.int x1)]) (St' := [.int (gi σ 0 12)]) (σ' := σ) [.aload_n 0, .getfield 48] (by decide +kernel) hc hT hF wi (by exact rfl) ?_
      refine am_if_ge (o := 5) (pc1 := 29) (by decide +kernel) hc (fun hq => ?_) (fun hq => ?_)
      · refine am_blk (pc' := 28) (Ls' := [.val (.ref 0), .val (.int x1)]) (St' := [.int (-1 : Int32)]) (σ' := σ) [.iconst (-1)] (by decide +kernel) hc hT hF wi (by exact rfl) ?_
        exact am_retI (by decide +kernel) hc (by decide) (by decide) (fun h W O => ⟨rfl, W, O⟩)
      · refine am_blk (pc' := 38) (Ls' := [.val (.ref 0), .val (.int x1)]) (St' := [.int x1, .int (gi σ 0 12), .ref 1]) (σ' := σ) [.aload_n 0, .getfield 7, .aload_n 0, .getfield 48, .iload_n 1] (by decide +kernel) hc hT hF wi (by exact rfl) ?_
        refine am_iastore (y := x1) rfl (by decide +kernel) hc rfl (fun hb0 => ?_)
        refine am_blk (pc' := 53) (Ls' := [.val (.ref 0), .val (.int x1)]) (St' := [.int ((gi σ 0 12) + (1 : Int32))]) (σ' := si (si σ 1 (nx (gi σ 0 12)) x1) 0 12 ((gi σ 0 12) + (1 : Int32))) [.aload_n 0, .aload_n 0, .getfield 48, .iconst 1, .iadd, .putfield 48, .aload_n 0, .getfield 48] (by decide +kernel) hc hT hF wi (by exact rfl) ?_
        exact am_retI (by decide +kernel) hc (by decide) (by decide) (fun h W O => ⟨rfl, W, O⟩)
    · refine am_blk (pc' := 28) (Ls' := [.val (.ref 0), .val (.int x1)]) (St' := [.int (-1 : Int32)]) (σ' := σ) [.iconst (-1)] (by decide +kernel) hc hT hF wi (by exact rfl) ?_
      exact am_retI (by decide +kernel) hc (by decide) (by decide) (fun h W O => ⟨rfl, W, O⟩)
  · refine am_blk (pc' := 28) (Ls' := [.val (.ref 0), .val (.int x1)]) (St' := [.int (-1 : Int32)]) (σ' := σ) [.iconst (-1)] (by decide +kernel) hc hT hF wi (by exact rfl) ?_
    exact am_retI (by decide +kernel) hc (by decide) (by decide) (fun h W O => ⟨rfl, W, O⟩)
abbrev rm_c_popRoot : Room := { frames := 0, cells := 0, slots := 0, locals := 0 }
def c_popRoot (σ : Sg) : Option (Int32 × Sg) :=
  if 0 < (gi σ 0 12) then (if ((gi σ 0 12) - (1 : Int32)) < (32 : Int32) then (if inb ((gi σ 0 12) - (1 : Int32)) 32 = true then (some (gi σ 1 (nx ((gi σ 0 12) - (1 : Int32))), si σ 0 12 ((gi σ 0 12) - (1 : Int32)))) else none) else (some ((0 : Int32), si σ 0 12 ((gi σ 0 12) - (1 : Int32))))) else (some ((0 : Int32), σ))
set_option maxRecDepth 65536 in
set_option maxHeartbeats 4000000 in
theorem ok_c_popRoot (hw : WH a0 Z) (σ : Sg) : ∀ x, c_popRoot σ = some x → Con l Z "ConservativeBiY" fsC (⟨"ConservativeBiY", "popRoot", "()I"⟩ : MethodName) prog_1_method_3_code 1 (some .int) rm_c_popRoot wC [.ref 0] σ (fI x).1 (fI x).2 := by
  refine am_con pnC ?_
  intro p e s m below meth c A n0 h0 hc
  have hT := tabC hw "popRoot"
  have hF := fsokC hw
  have wi := wiC hw
  unfold c_popRoot
  refine am_blk (pc' := 4) (Ls' := [.val (.ref 0)]) (St' := [.int (gi σ 0 12)]) (σ' := σ) [.aload_n 0, .getfield 48] (by decide +kernel) hc hT hF wi (by exact rfl) ?_
  refine am_if_gt (o := 5) (pc1 := 9) (by decide +kernel) hc (fun hq => ?_) (fun hq => ?_)
  · refine am_blk (pc' := 25) (Ls' := [.val (.ref 0)]) (St' := [.int (32 : Int32), .int ((gi σ 0 12) - (1 : Int32))]) (σ' := si σ 0 12 ((gi σ 0 12) - (1 : Int32))) [.aload_n 0, .aload_n 0, .getfield 48, .iconst 1, .isub, .putfield 48, .aload_n 0, .getfield 48, .bipush 32] (by decide +kernel) hc hT hF wi (by exact rfl) ?_
    refine am_icmp_lt (o := 5) (pc1 := 30) (by decide +kernel) hc (fun hq => ?_) (fun hq => ?_)
    · refine am_blk (pc' := 38) (Ls' := [.val (.ref 0)]) (St' := [.int ((gi σ 0 12) - (1 : Int32)), .ref 1]) (σ' := si σ 0 12 ((gi σ 0 12) - (1 : Int32))) [.aload_n 0, .getfield 7, .aload_n 0, .getfield 48] (by decide +kernel) hc hT hF wi (by exact rfl) ?_
      refine am_iaload (by decide +kernel) hc rfl (fun hb0 => ?_)
      exact am_retI (by decide +kernel) hc (by decide) (by decide) (fun h W O => ⟨rfl, W, O⟩)
    · refine am_blk (pc' := 29) (Ls' := [.val (.ref 0)]) (St' := [.int (0 : Int32)]) (σ' := si σ 0 12 ((gi σ 0 12) - (1 : Int32))) [.iconst 0] (by decide +kernel) hc hT hF wi (by exact rfl) ?_
      exact am_retI (by decide +kernel) hc (by decide) (by decide) (fun h W O => ⟨rfl, W, O⟩)
  · refine am_blk (pc' := 8) (Ls' := [.val (.ref 0)]) (St' := [.int (0 : Int32)]) (σ' := σ) [.iconst 0] (by decide +kernel) hc hT hF wi (by exact rfl) ?_
    exact am_retI (by decide +kernel) hc (by decide) (by decide) (fun h W O => ⟨rfl, W, O⟩)
abbrev rm_c_setRoot : Room := { frames := 1, cells := 0, slots := 0, locals := 13 }
def c_setRoot (x1 : Int32) (x2 : Int32) (σ : Sg) : Option (Int32 × Sg) :=
  (c_rootIndexValid x1 σ).bind fun r1 => if r1.1 = 0 then (some ((0 : Int32), r1.2)) else (if inb x1 32 = true then (some ((1 : Int32), si r1.2 1 (nx x1) x2)) else none)
set_option maxRecDepth 65536 in
set_option maxHeartbeats 4000000 in
theorem ok_c_setRoot (hw : WH a0 Z) (x1 : Int32) (x2 : Int32) (σ : Sg) : ∀ x, c_setRoot x1 x2 σ = some x → Con l Z "ConservativeBiY" fsC (⟨"ConservativeBiY", "setRoot", "(II)Z"⟩ : MethodName) prog_1_method_4_code 3 (some .boolean) rm_c_setRoot wC [.ref 0, .int x1, .int x2] σ (fI x).1 (fI x).2 := by
  refine am_con pnC ?_
  intro p e s m below meth c A n0 h0 hc
  have hT := tabC hw "setRoot"
  have hF := fsokC hw
  have wi := wiC hw
  unfold c_setRoot
  refine am_blk (pc' := 2) (Ls' := [.val (.ref 0), .val (.int x1), .val (.int x2)]) (St' := [.int x1, .ref 0]) (σ' := σ) [.aload_n 0, .iload_n 1] (by decide +kernel) hc hT hF wi (by exact rfl) ?_
  refine am_callP_I (W0 := 0) (argsL := [.int x1]) (rest := []) rfl (lk_C_64 hw) rfl wi (by decide +kernel) hc (SubW.refl _) rfl (by show arity "(I)Z" 1 = true; decide +kernel) (ok_c_rootIndexValid hw x1 _) rfl ⟨by decide, by decide, Nat.le_of_eq rfl, rfl, rfl, by decide, by decide⟩ (fun r1 hr => ?_)
  refine am_if_ne (o := 5) (pc1 := 10) (by decide +kernel) hc (fun hq => ?_) (fun hq => ?_)
  · refine am_blk (pc' := 9) (Ls' := [.val (.ref 0), .val (.int x1), .val (.int x2)]) (St' := [.int (0 : Int32)]) (σ' := r1.2) [.iconst 0] (by decide +kernel) hc hT hF wi (by exact rfl) ?_
    exact am_retZ (by decide +kernel) hc (by decide) (by decide) (fun h W O => ⟨rfl, W, O⟩)
  · refine am_blk (pc' := 16) (Ls' := [.val (.ref 0), .val (.int x1), .val (.int x2)]) (St' := [.int x2, .int x1, .ref 1]) (σ' := r1.2) [.aload_n 0, .getfield 7, .iload_n 1, .iload_n 2] (by decide +kernel) hc hT hF wi (by exact rfl) ?_
    refine am_iastore (y := x2) rfl (by decide +kernel) hc rfl (fun hb0 => ?_)
    refine am_blk (pc' := 18) (Ls' := [.val (.ref 0), .val (.int x1), .val (.int x2)]) (St' := [.int (1 : Int32)]) (σ' := si r1.2 1 (nx x1) x2) [.iconst 1] (by decide +kernel) hc hT hF wi (by exact rfl) ?_
    exact am_retZ (by decide +kernel) hc (by decide) (by decide) (fun h W O => ⟨rfl, W, O⟩)
abbrev rm_c_classIndexFor : Room := { frames := 0, cells := 0, slots := 0, locals := 0 }
def c_classIndexFor_2 : Nat → Int32 → Int32 → Sg → Option (Int32 × Sg)
  | 0, _, _, _ => none
  | fuel + 1, x1, x2, σ =>
    if x2 < (5 : Int32) then (if ((1 : Int32) <<< (x2 &&& 31)) < x1 then (c_classIndexFor_2 fuel x1 (x2 + (1 : Int32)) σ) else (some (x2, σ))) else (some ((4 : Int32), σ))
set_option maxRecDepth 65536 in
set_option maxHeartbeats 4000000 in
theorem okc_c_classIndexFor_2 (hw : WH a0 Z) (hc : Cx p s m meth c Z "ConservativeBiY" prog_1_method_13_code 3 (some .int) "classIndexFor") : ∀ (fuel : Nat) (x1 : Int32) (x2 : Int32) (σ : Sg), OkR p l e rm_c_classIndexFor s m args below meth c Z "ConservativeBiY" fsC n0 h0 (FM Z "ConservativeBiY" fsC A wC h0 fI) A wC 0 0 2 [.unset, .val (.int x1), .val (.int x2)] [] σ (c_classIndexFor_2 fuel x1 x2 σ) := by
  have hT := tabC hw "classIndexFor"
  have hF := fsokC hw
  have wi := wiC hw
  intro fuel
  induction fuel with
  | zero => intro x1 x2 σ; exact am_none rfl
  | succ fuel ih =>
    intro x1 x2 σ
    rw [c_classIndexFor_2]
    refine am_blk (pc' := 4) (Ls' := [.unset, .val (.int x1), .val (.int x2)]) (St' := [.int (5 : Int32), .int x2]) (σ' := σ) [.iload_n 2, .iconst 5] (by decide +kernel) hc hT hF wi (by exact rfl) ?_
    refine am_icmp_ge (o := 18) (pc1 := 22) (by decide +kernel) hc (fun hq => ?_) (fun hq => ?_)
    · refine am_blk (pc' := 11) (Ls' := [.unset, .val (.int x1), .val (.int x2)]) (St' := [.int x1, .int ((1 : Int32) <<< (x2 &&& 31))]) (σ' := σ) [.iconst 1, .iload_n 2, .ishl, .iload_n 1] (by decide +kernel) hc hT hF wi (by exact rfl) ?_
      refine am_icmp_lt (o := 5) (pc1 := 16) (by decide +kernel) hc (fun hq => ?_) (fun hq => ?_)
      · refine am_blk (pc' := 2) (Ls' := [.unset, .val (.int x1), .val (.int (x2 + (1 : Int32)))]) (St' := []) (σ' := σ) [.iinc 2 1, .goto (-17)] (by decide +kernel) hc hT hF wi (by exact rfl) ?_
        exact am_wk (Ls' := [.unset, .val (.int x1), .val (.int (x2 + (1 : Int32)))]) (by simp [wkL]) (ih x1 (x2 + (1 : Int32)) σ)
      · refine am_blk (pc' := 15) (Ls' := [.unset, .val (.int x1), .val (.int x2)]) (St' := [.int x2]) (σ' := σ) [.iload_n 2] (by decide +kernel) hc hT hF wi (by exact rfl) ?_
        exact am_retI (by decide +kernel) hc (by decide) (by decide) (fun h W O => ⟨rfl, W, O⟩)
    · refine am_blk (pc' := 23) (Ls' := [.unset, .val (.int x1), .val (.int x2)]) (St' := [.int (4 : Int32)]) (σ' := σ) [.iconst 4] (by decide +kernel) hc hT hF wi (by exact rfl) ?_
      exact am_retI (by decide +kernel) hc (by decide) (by decide) (fun h W O => ⟨rfl, W, O⟩)
def c_classIndexFor (x1 : Int32) (σ : Sg) : Option (Int32 × Sg) :=
  c_classIndexFor_2 400 x1 (0 : Int32) σ
set_option maxRecDepth 65536 in
set_option maxHeartbeats 4000000 in
theorem ok_c_classIndexFor (hw : WH a0 Z) (x1 : Int32) (σ : Sg) : ∀ x, c_classIndexFor x1 σ = some x → Con l Z "ConservativeBiY" fsC (⟨"ConservativeBiY", "classIndexFor", "(I)I"⟩ : MethodName) prog_1_method_13_code 3 (some .int) rm_c_classIndexFor wC [.ref 0, .int x1] σ (fI x).1 (fI x).2 := by
  refine am_con pnC ?_
  intro p e s m below meth c A n0 h0 hc
  have hT := tabC hw "classIndexFor"
  have hF := fsokC hw
  have wi := wiC hw
  unfold c_classIndexFor
  refine am_blk (pc' := 2) (Ls' := [.val (.ref 0), .val (.int x1), .val (.int (0 : Int32))]) (St' := []) (σ' := σ) [.iconst 0, .istore_n 2] (by decide +kernel) hc hT hF wi (by exact rfl) ?_
  exact am_wk (Ls' := [.unset, .val (.int x1), .val (.int (0 : Int32))]) (by simp [wkL]) (okc_c_classIndexFor_2 hw hc 400 x1 (0 : Int32) σ)
abbrev rm_c_lowestBit : Room := { frames := 0, cells := 0, slots := 0, locals := 0 }
def c_lowestBit_2 : Nat → Int32 → Int32 → Sg → Option (Int32 × Sg)
  | 0, _, _, _ => none
  | fuel + 1, x1, x2, σ =>
    if x2 < (16 : Int32) then (if ((x1 >>> (x2 &&& 31)) &&& (1 : Int32)) = 0 then (c_lowestBit_2 fuel x1 (x2 + (1 : Int32)) σ) else (some (x2, σ))) else (some ((-1 : Int32), σ))
set_option maxRecDepth 65536 in
set_option maxHeartbeats 4000000 in
theorem okc_c_lowestBit_2 (hw : WH a0 Z) (hc : Cx p s m meth c Z "ConservativeBiY" prog_1_method_40_code 3 (some .int) "lowestBit") : ∀ (fuel : Nat) (x1 : Int32) (x2 : Int32) (σ : Sg), OkR p l e rm_c_lowestBit s m args below meth c Z "ConservativeBiY" fsC n0 h0 (FM Z "ConservativeBiY" fsC A wC h0 fI) A wC 0 0 2 [.unset, .val (.int x1), .val (.int x2)] [] σ (c_lowestBit_2 fuel x1 x2 σ) := by
  have hT := tabC hw "lowestBit"
  have hF := fsokC hw
  have wi := wiC hw
  intro fuel
  induction fuel with
  | zero => intro x1 x2 σ; exact am_none rfl
  | succ fuel ih =>
    intro x1 x2 σ
    rw [c_lowestBit_2]
    refine am_blk (pc' := 5) (Ls' := [.unset, .val (.int x1), .val (.int x2)]) (St' := [.int (16 : Int32), .int x2]) (σ' := σ) [.iload_n 2, .bipush 16] (by decide +kernel) hc hT hF wi (by exact rfl) ?_
    refine am_icmp_ge (o := 19) (pc1 := 24) (by decide +kernel) hc (fun hq => ?_) (fun hq => ?_)
    · refine am_blk (pc' := 13) (Ls' := [.unset, .val (.int x1), .val (.int x2)]) (St' := [.int ((x1 >>> (x2 &&& 31)) &&& (1 : Int32))]) (σ' := σ) [.iload_n 1, .iload_n 2, .ishr, .iconst 1, .iand] (by decide +kernel) hc hT hF wi (by exact rfl) ?_
      refine am_if_eq (o := 5) (pc1 := 18) (by decide +kernel) hc (fun hq => ?_) (fun hq => ?_)
      · refine am_blk (pc' := 2) (Ls' := [.unset, .val (.int x1), .val (.int (x2 + (1 : Int32)))]) (St' := []) (σ' := σ) [.iinc 2 1, .goto (-19)] (by decide +kernel) hc hT hF wi (by exact rfl) ?_
        exact am_wk (Ls' := [.unset, .val (.int x1), .val (.int (x2 + (1 : Int32)))]) (by simp [wkL]) (ih x1 (x2 + (1 : Int32)) σ)
      · refine am_blk (pc' := 17) (Ls' := [.unset, .val (.int x1), .val (.int x2)]) (St' := [.int x2]) (σ' := σ) [.iload_n 2] (by decide +kernel) hc hT hF wi (by exact rfl) ?_
        exact am_retI (by decide +kernel) hc (by decide) (by decide) (fun h W O => ⟨rfl, W, O⟩)
    · refine am_blk (pc' := 25) (Ls' := [.unset, .val (.int x1), .val (.int x2)]) (St' := [.int (-1 : Int32)]) (σ' := σ) [.iconst (-1)] (by decide +kernel) hc hT hF wi (by exact rfl) ?_
      exact am_retI (by decide +kernel) hc (by decide) (by decide) (fun h W O => ⟨rfl, W, O⟩)
def c_lowestBit (x1 : Int32) (σ : Sg) : Option (Int32 × Sg) :=
  c_lowestBit_2 400 x1 (0 : Int32) σ
set_option maxRecDepth 65536 in
set_option maxHeartbeats 4000000 in
theorem ok_c_lowestBit (hw : WH a0 Z) (x1 : Int32) (σ : Sg) : ∀ x, c_lowestBit x1 σ = some x → Con l Z "ConservativeBiY" fsC (⟨"ConservativeBiY", "lowestBit", "(I)I"⟩ : MethodName) prog_1_method_40_code 3 (some .int) rm_c_lowestBit wC [.ref 0, .int x1] σ (fI x).1 (fI x).2 := by
  refine am_con pnC ?_
  intro p e s m below meth c A n0 h0 hc
  have hT := tabC hw "lowestBit"
  have hF := fsokC hw
  have wi := wiC hw
  unfold c_lowestBit
  refine am_blk (pc' := 2) (Ls' := [.val (.ref 0), .val (.int x1), .val (.int (0 : Int32))]) (St' := []) (σ' := σ) [.iconst 0, .istore_n 2] (by decide +kernel) hc hT hF wi (by exact rfl) ?_
  exact am_wk (Ls' := [.unset, .val (.int x1), .val (.int (0 : Int32))]) (by simp [wkL]) (okc_c_lowestBit_2 hw hc 400 x1 (0 : Int32) σ)
abbrev rm_c_slotMaskFor : Room := { frames := 0, cells := 0, slots := 0, locals := 0 }
def c_slotMaskFor (x1 : Int32) (σ : Sg) : Option (Int32 × Sg) :=
  if x1 < 0 then (some ((0 : Int32), σ)) else (if (4 : Int32) < x1 then (some ((0 : Int32), σ)) else (some (((1 : Int32) <<< (((16 : Int32) >>> (x1 &&& 31)) &&& 31)) - (1 : Int32), σ)))
set_option maxRecDepth 65536 in
set_option maxHeartbeats 4000000 in
theorem ok_c_slotMaskFor (hw : WH a0 Z) (x1 : Int32) (σ : Sg) : ∀ x, c_slotMaskFor x1 σ = some x → Con l Z "ConservativeBiY" fsC (⟨"ConservativeBiY", "slotMaskFor", "(I)I"⟩ : MethodName) prog_1_method_14_code 3 (some .int) rm_c_slotMaskFor wC [.ref 0, .int x1] σ (fI x).1 (fI x).2 := by
  refine am_con pnC ?_
  intro p e s m below meth c A n0 h0 hc
  have hT := tabC hw "slotMaskFor"
  have hF := fsokC hw
  have wi := wiC hw
  unfold c_slotMaskFor
  refine am_blk (pc' := 1) (Ls' := [.val (.ref 0), .val (.int x1), .unset]) (St' := [.int x1]) (σ' := σ) [.iload_n 1] (by decide +kernel) hc hT hF wi (by exact rfl) ?_
  refine am_if_lt (o := 8) (pc1 := 9) (by decide +kernel) hc (fun hq => ?_) (fun hq => ?_)
  · refine am_blk (pc' := 10) (Ls' := [.val (.ref 0), .val (.int x1), .unset]) (St' := [.int (0 : Int32)]) (σ' := σ) [.iconst 0] (by decide +kernel) hc hT hF wi (by exact rfl) ?_
    exact am_retI (by decide +kernel) hc (by decide) (by decide) (fun h W O => ⟨rfl, W, O⟩)
  · refine am_blk (pc' := 6) (Ls' := [.val (.ref 0), .val (.int x1), .unset]) (St' := [.int (4 : Int32), .int x1]) (σ' := σ) [.iload_n 1, .iconst 4] (by decide +kernel) hc hT hF wi (by exact rfl) ?_
    refine am_icmp_le (o := 5) (pc1 := 11) (by decide +kernel) hc (fun hq => ?_) (fun hq => ?_)
    · refine am_blk (pc' := 10) (Ls' := [.val (.ref 0), .val (.int x1), .unset]) (St' := [.int (0 : Int32)]) (σ' := σ) [.iconst 0] (by decide +kernel) hc hT hF wi (by exact rfl) ?_
      exact am_retI (by decide +kernel) hc (by decide) (by decide) (fun h W O => ⟨rfl, W, O⟩)
    · refine am_blk (pc' := 21) (Ls' := [.val (.ref 0), .val (.int x1), .val (.int ((16 : Int32) >>> (x1 &&& 31)))]) (St' := [.int (((1 : Int32) <<< (((16 : Int32) >>> (x1 &&& 31)) &&& 31)) - (1 : Int32))]) (σ' := σ) [.bipush 16, .iload_n 1, .ishr, .istore_n 2, .iconst 1, .iload_n 2, .ishl, .iconst 1, .isub] (by decide +kernel) hc hT hF wi (by exact rfl) ?_
      exact am_retI (by decide +kernel) hc (by decide) (by decide) (fun h W O => ⟨rfl, W, O⟩)
abbrev rm_c_clearWords : Room := { frames := 0, cells := 0, slots := 0, locals := 0 }
def c_clearWords_49 (k9 : Int32 → Int32 → Int32 → Sg → Option Sg) (x2 : Int32) (x3 : Int32) (x4 : Int32) (σ : Sg) : Option Sg :=
  k9 x2 x3 (x4 + (1 : Int32)) σ
set_option maxRecDepth 65536 in
set_option maxHeartbeats 4000000 in
theorem okc_c_clearWords_49 (hw : WH a0 Z) (hc : Cx p s m meth c Z "ConservativeBiY" prog_1_method_12_code 6 none "clearWords") (k9 : Int32 → Int32 → Int32 → Sg → Option Sg) (hk9 : ∀ (x2 : Int32) (x3 : Int32) (x4 : Int32) (σ : Sg), OkR p l e rm_c_clearWords s m args below meth c Z "ConservativeBiY" fsC n0 h0 (FM Z "ConservativeBiY" fsC A wC h0 fV) A wC 0 0 9 [.val (.ref 0), .unset, .val (.int x2), .val (.int x3), .val (.int x4), .unset] [] σ (k9 x2 x3 x4 σ)) (x2 : Int32) (x3 : Int32) (x4 : Int32) (σ : Sg) : OkR p l e rm_c_clearWords s m args below meth c Z "ConservativeBiY" fsC n0 h0 (FM Z "ConservativeBiY" fsC A wC h0 fV) A wC 0 0 49 [.val (.ref 0), .unset, .val (.int x2), .val (.int x3), .val (.int x4), .unset] [] σ (c_clearWords_49 k9 x2 x3 x4 σ) := by
  have hT := tabC hw "clearWords"
  have hF := fsokC hw
  have wi := wiC hw
  unfold c_clearWords_49
  refine am_blk (pc' := 9) (Ls' := [.val (.ref 0), .unset, .val (.int x2), .val (.int x3), .val (.int (x4 + (1 : Int32))), .unset]) (St' := []) (σ' := σ) [.iinc 4 1, .goto (-43)] (by decide +kernel) hc hT hF wi (by exact rfl) ?_
  exact am_wk (Ls' := [.val (.ref 0), .unset, .val (.int x2), .val (.int x3), .val (.int (x4 + (1 : Int32))), .unset]) (by simp [wkL]) (hk9 x2 x3 (x4 + (1 : Int32)) σ)
def c_clearWords_9 : Nat → Int32 → Int32 → Int32 → Sg → Option Sg
  | 0, _, _, _, _ => none
  | fuel + 1, x2, x3, x4, σ =>
    if x4 < x2 then (if x4 < (16 : Int32) then (if (x3 + x4) < 0 then (c_clearWords_49 (c_clearWords_9 fuel) x2 x3 x4 σ) else (if (x3 + x4) < (256 : Int32) then (if inb (x3 + x4) 256 = true then (c_clearWords_49 (c_clearWords_9 fuel) x2 x3 x4 (si σ 2 (nx (x3 + x4)) (0 : Int32))) else none) else (c_clearWords_49 (c_clearWords_9 fuel) x2 x3 x4 σ))) else (some σ)) else (some σ)
set_option maxRecDepth 65536 in
set_option maxHeartbeats 4000000 in
theorem okc_c_clearWords_9 (hw : WH a0 Z) (hc : Cx p s m meth c Z "ConservativeBiY" prog_1_method_12_code 6 none "clearWords") : ∀ (fuel : Nat) (x2 : Int32) (x3 : Int32) (x4 : Int32) (σ : Sg), OkR p l e rm_c_clearWords s m args below meth c Z "ConservativeBiY" fsC n0 h0 (FM Z "ConservativeBiY" fsC A wC h0 fV) A wC 0 0 9 [.val (.ref 0), .unset, .val (.int x2), .val (.int x3), .val (.int x4), .unset] [] σ (c_clearWords_9 fuel x2 x3 x4 σ) := by
  have hT := tabC hw "clearWords"
  have hF := fsokC hw
  have wi := wiC hw
  intro fuel
  induction fuel with
  | zero => intro x2 x3 x4 σ; exact am_none rfl
  | succ fuel ih =>
    intro x2 x3 x4 σ
    rw [c_clearWords_9]
    refine am_blk (pc' := 12) (Ls' := [.val (.ref 0), .unset, .val (.int x2), .val (.int x3), .val (.int x4), .unset]) (St' := [.int x2, .int x4]) (σ' := σ) [.iload 4, .iload_n 2] (by decide +kernel) hc hT hF wi (by exact rfl) ?_
    refine am_icmp_ge (o := 43) (pc1 := 55) (by decide +kernel) hc (fun hq => ?_) (fun hq => ?_)
    · refine am_blk (pc' := 19) (Ls' := [.val (.ref 0), .unset, .val (.int x2), .val (.int x3), .val (.int x4), .unset]) (St' := [.int (16 : Int32), .int x4]) (σ' := σ) [.iload 4, .bipush 16] (by decide +kernel) hc hT hF wi (by exact rfl) ?_
      refine am_icmp_ge (o := 36) (pc1 := 55) (by decide +kernel) hc (fun hq => ?_) (fun hq => ?_)
      · refine am_blk (pc' := 30) (Ls' := [.val (.ref 0), .unset, .val (.int x2), .val (.int x3), .val (.int x4), .val (.int (x3 + x4))]) (St' := [.int (x3 + x4)]) (σ' := σ) [.iload_n 3, .iload 4, .iadd, .istore 5, .iload 5] (by decide +kernel) hc hT hF wi (by exact rfl) ?_
        refine am_if_lt (o := 19) (pc1 := 49) (by decide +kernel) hc (fun hq => ?_) (fun hq => ?_)
        · exact am_wk (Ls' := [.val (.ref 0), .unset, .val (.int x2), .val (.int x3), .val (.int x4), .unset]) (by simp [wkL]) (okc_c_clearWords_49 hw hc _ ih x2 x3 x4 σ)
        · refine am_blk (pc' := 38) (Ls' := [.val (.ref 0), .unset, .val (.int x2), .val (.int x3), .val (.int x4), .val (.int (x3 + x4))]) (St' := [.int (256 : Int32), .int (x3 + x4)]) (σ' := σ) [.iload 5, .sipush 256] (by decide +kernel) hc hT hF wi (by exact rfl) ?_
          refine am_icmp_ge (o := 11) (pc1 := 49) (by decide +kernel) hc (fun hq => ?_) (fun hq => ?_)
          · refine am_blk (pc' := 48) (Ls' := [.val (.ref 0), .unset, .val (.int x2), .val (.int x3), .val (.int x4), .val (.int (x3 + x4))]) (St' := [.int (0 : Int32), .int (x3 + x4), .ref 2]) (σ' := σ) [.aload_n 0, .getfield 13, .iload 5, .iconst 0] (by decide +kernel) hc hT hF wi (by exact rfl) ?_
            refine am_iastore (y := (0 : Int32)) rfl (by decide +kernel) hc rfl (fun hb0 => ?_)
            exact am_wk (Ls' := [.val (.ref 0), .unset, .val (.int x2), .val (.int x3), .val (.int x4), .unset]) (by simp [wkL]) (okc_c_clearWords_49 hw hc _ ih x2 x3 x4 (si σ 2 (nx (x3 + x4)) (0 : Int32)))
          · exact am_wk (Ls' := [.val (.ref 0), .unset, .val (.int x2), .val (.int x3), .val (.int x4), .unset]) (by simp [wkL]) (okc_c_clearWords_49 hw hc _ ih x2 x3 x4 σ)
      · exact am_retV (by decide +kernel) hc (by decide) (by decide) (fun h W O => ⟨rfl, W, O⟩)
    · exact am_retV (by decide +kernel) hc (by decide) (by decide) (fun h W O => ⟨rfl, W, O⟩)
def c_clearWords (x1 : Int32) (x2 : Int32) (σ : Sg) : Option Sg :=
  c_clearWords_9 400 x2 (x1 - (4096 : Int32)) (0 : Int32) σ
set_option maxRecDepth 65536 in
set_option maxHeartbeats 4000000 in
theorem ok_c_clearWords (hw : WH a0 Z) (x1 : Int32) (x2 : Int32) (σ : Sg) : ∀ x, c_clearWords x1 x2 σ = some x → Con l Z "ConservativeBiY" fsC (⟨"ConservativeBiY", "clearWords", "(II)V"⟩ : MethodName) prog_1_method_12_code 6 none rm_c_clearWords wC [.ref 0, .int x1, .int x2] σ (fV x).1 (fV x).2 := by
  refine am_con pnC ?_
  intro p e s m below meth c A n0 h0 hc
  have hT := tabC hw "clearWords"
  have hF := fsokC hw
  have wi := wiC hw
  unfold c_clearWords
  refine am_blk (pc' := 9) (Ls' := [.val (.ref 0), .val (.int x1), .val (.int x2), .val (.int (x1 - (4096 : Int32))), .val (.int (0 : Int32)), .unset]) (St' := []) (σ' := σ) [.iload_n 1, .sipush 4096, .isub, .istore_n 3, .iconst 0, .istore 4] (by decide +kernel) hc hT hF wi (by exact rfl) ?_
  exact am_wk (Ls' := [.val (.ref 0), .unset, .val (.int x2), .val (.int (x1 - (4096 : Int32))), .val (.int (0 : Int32)), .unset]) (by simp [wkL]) (okc_c_clearWords_9 hw hc 400 x2 (x1 - (4096 : Int32)) (0 : Int32) σ)
abbrev rm_c_refreshPage : Room := { frames := 1, cells := 0, slots := 0, locals := 14 }
def c_refreshPage_17 : Nat → Int32 → Int32 → Int32 → Sg → Option Sg
  | 0, _, _, _, _ => none
  | fuel + 1, x1, x2, x3, σ =>
    if x3 < (5 : Int32) then (if inb x3 5 = true then (c_refreshPage_17 fuel x1 x2 (x3 + (1 : Int32)) (si σ 8 (nx x3) ((gi σ 8 (nx x3)) &&& (x2 ^^^ (-1 : Int32))))) else none) else (if x1 < (gi σ 0 10) then (if inb x1 16 = true then (if (gi σ 3 (nx x1)) = 0 then (some (si (si σ 0 13 ((gi σ 0 13) &&& (x2 ^^^ (-1 : Int32)))) 0 13 (((gi σ 0 13) &&& (x2 ^^^ (-1 : Int32))) ||| x2))) else (if (gi σ 4 (nx x1)) < 0 then (some (si σ 0 13 ((gi σ 0 13) &&& (x2 ^^^ (-1 : Int32))))) else (if (4 : Int32) < (gi σ 4 (nx x1)) then (some (si σ 0 13 ((gi σ 0 13) &&& (x2 ^^^ (-1 : Int32))))) else ((c_slotMaskFor (gi σ 4 (nx x1)) (si σ 0 13 ((gi σ 0 13) &&& (x2 ^^^ (-1 : Int32))))).bind fun r1 => if ((gi r1.2 5 (nx x1)) &&& r1.1) = r1.1 then (some r1.2) else (if inb (gi σ 4 (nx x1)) 5 = true then (some (si r1.2 8 (nx (gi σ 4 (nx x1))) ((gi r1.2 8 (nx (gi σ 4 (nx x1)))) ||| x2))) else none))))) else none) else (some (si σ 0 13 ((gi σ 0 13) &&& (x2 ^^^ (-1 : Int32))))))
set_option maxRecDepth 65536 in
set_option maxHeartbeats 4000000 in
theorem okc_c_refreshPage_17 (hw : WH a0 Z) (hc : Cx p s m meth c Z "ConservativeBiY" prog_1_method_16_code 5 none "refreshPage") : ∀ (fuel : Nat) (x1 : Int32) (x2 : Int32) (x3 : Int32) (σ : Sg), OkR p l e rm_c_refreshPage s m args below meth c Z "ConservativeBiY" fsC n0 h0 (FM Z "ConservativeBiY" fsC A wC h0 fV) A wC 0 0 17 [.val (.ref 0), .val (.int x1), .val (.int x2), .val (.int x3), .unset] [] σ (c_refreshPage_17 fuel x1 x2 x3 σ) := by
  have hT := tabC hw "refreshPage"
  have hF := fsokC hw
  have wi := wiC hw
  intro fuel
  induction fuel with
  | zero => intro x1 x2 x3 σ; exact am_none rfl
  | succ fuel ih =>
    intro x1 x2 x3 σ
    rw [c_refreshPage_17]
    refine am_blk (pc' := 19) (Ls' := [.val (.ref 0), .val (.int x1), .val (.int x2), .val (.int x3), .unset]) (St' := [.int (5 : Int32), .int x3]) (σ' := σ) [.iload_n 3, .iconst 5] (by decide +kernel) hc hT hF wi (by exact rfl) ?_
    refine am_icmp_ge (o := 25) (pc1 := 44) (by decide +kernel) hc (fun hq => ?_) (fun hq => ?_)
    · refine am_blk (pc' := 32) (Ls' := [.val (.ref 0), .val (.int x1), .val (.int x2), .val (.int x3), .unset]) (St' := [.int x3, .ref 8, .int x3, .ref 8]) (σ' := σ) [.aload_n 0, .getfield 32, .iload_n 3, .aload_n 0, .getfield 32, .iload_n 3] (by decide +kernel) hc hT hF wi (by exact rfl) ?_
      refine am_iaload (by decide +kernel) hc rfl (fun hb0 => ?_)
      refine am_blk (pc' := 37) (Ls' := [.val (.ref 0), .val (.int x1), .val (.int x2), .val (.int x3), .unset]) (St' := [.int ((gi σ 8 (nx x3)) &&& (x2 ^^^ (-1 : Int32))), .int x3, .ref 8]) (σ' := σ) [.iload_n 2, .iconst (-1), .ixor, .iand] (by decide +kernel) hc hT hF wi (by exact rfl) ?_
      refine am_iastore_k hb0 (y := ((gi σ 8 (nx x3)) &&& (x2 ^^^ (-1 : Int32)))) rfl (by decide +kernel) hc rfl ?_
      refine am_blk (pc' := 17) (Ls' := [.val (.ref 0), .val (.int x1), .val (.int x2), .val (.int (x3 + (1 : Int32))), .unset]) (St' := []) (σ' := si σ 8 (nx x3) ((gi σ 8 (nx x3)) &&& (x2 ^^^ (-1 : Int32)))) [.iinc 3 1, .goto (-24)] (by decide +kernel) hc hT hF wi (by exact rfl) ?_
      exact am_wk (Ls' := [.val (.ref 0), .val (.int x1), .val (.int x2), .val (.int (x3 + (1 : Int32))), .unset]) (by simp [wkL]) (ih x1 x2 (x3 + (1 : Int32)) (si σ 8 (nx x3) ((gi σ 8 (nx x3)) &&& (x2 ^^^ (-1 : Int32)))))
    · refine am_blk (pc' := 61) (Ls' := [.val (.ref 0), .val (.int x1), .val (.int x2), .val (.int x3), .unset]) (St' := [.int (gi σ 0 10), .int x1]) (σ' := si σ 0 13 ((gi σ 0 13) &&& (x2 ^^^ (-1 : Int32)))) [.aload_n 0, .aload_n 0, .getfield 55, .iload_n 2, .iconst (-1), .ixor, .iand, .putfield 55, .iload_n 1, .aload_n 0, .getfield 41] (by decide +kernel) hc hT hF wi (by exact rfl) ?_
      refine am_icmp_lt (o := 4) (pc1 := 65) (by decide +kernel) hc (fun hq => ?_) (fun hq => ?_)
      · refine am_blk (pc' := 70) (Ls' := [.val (.ref 0), .val (.int x1), .val (.int x2), .val (.int x3), .unset]) (St' := [.int x1, .ref 3]) (σ' := si σ 0 13 ((gi σ 0 13) &&& (x2 ^^^ (-1 : Int32)))) [.aload_n 0, .getfield 16, .iload_n 1] (by decide +kernel) hc hT hF wi (by exact rfl) ?_
        refine am_iaload (by decide +kernel) hc rfl (fun hb0 => ?_)
        refine am_if_ne (o := 14) (pc1 := 85) (by decide +kernel) hc (fun hq => ?_) (fun hq => ?_)
        · refine am_blk (pc' := 84) (Ls' := [.val (.ref 0), .val (.int x1), .val (.int x2), .val (.int x3), .unset]) (St' := []) (σ' := si (si σ 0 13 ((gi σ 0 13) &&& (x2 ^^^ (-1 : Int32)))) 0 13 (((gi σ 0 13) &&& (x2 ^^^ (-1 : Int32))) ||| x2)) [.aload_n 0, .aload_n 0, .getfield 55, .iload_n 2, .ior, .putfield 55] (by decide +kernel) hc hT hF wi (by exact rfl) ?_
          exact am_retV (by decide +kernel) hc (by decide) (by decide) (fun h W O => ⟨rfl, W, O⟩)
        · refine am_blk (pc' := 90) (Ls' := [.val (.ref 0), .val (.int x1), .val (.int x2), .val (.int x3), .unset]) (St' := [.int x1, .ref 4]) (σ' := si σ 0 13 ((gi σ 0 13) &&& (x2 ^^^ (-1 : Int32)))) [.aload_n 0, .getfield 19, .iload_n 1] (by decide +kernel) hc hT hF wi (by exact rfl) ?_
          refine am_iaload_k hb0 (by decide +kernel) hc rfl ?_
          refine am_blk (pc' := 93) (Ls' := [.val (.ref 0), .val (.int x1), .val (.int x2), .val (.int (gi σ 4 (nx x1))), .unset]) (St' := [.int (gi σ 4 (nx x1))]) (σ' := si σ 0 13 ((gi σ 0 13) &&& (x2 ^^^ (-1 : Int32)))) [.istore_n 3, .iload_n 3] (by decide +kernel) hc hT hF wi (by exact rfl) ?_
          refine am_if_lt (o := 8) (pc1 := 101) (by decide +kernel) hc (fun hq => ?_) (fun hq => ?_)
          · exact am_retV (by decide +kernel) hc (by decide) (by decide) (fun h W O => ⟨rfl, W, O⟩)
          · refine am_blk (pc' := 98) (Ls' := [.val (.ref 0), .val (.int x1), .val (.int x2), .val (.int (gi σ 4 (nx x1))), .unset]) (St' := [.int (4 : Int32), .int (gi σ 4 (nx x1))]) (σ' := si σ 0 13 ((gi σ 0 13) &&& (x2 ^^^ (-1 : Int32)))) [.iload_n 3, .iconst 4] (by decide +kernel) hc hT hF wi (by exact rfl) ?_
            refine am_icmp_le (o := 4) (pc1 := 102) (by decide +kernel) hc (fun hq => ?_) (fun hq => ?_)
            · exact am_retV (by decide +kernel) hc (by decide) (by decide) (fun h W O => ⟨rfl, W, O⟩)
            · refine am_blk (pc' := 104) (Ls' := [.val (.ref 0), .val (.int x1), .val (.int x2), .val (.int (gi σ 4 (nx x1))), .unset]) (St' := [.int (gi σ 4 (nx x1)), .ref 0]) (σ' := si σ 0 13 ((gi σ 0 13) &&& (x2 ^^^ (-1 : Int32)))) [.aload_n 0, .iload_n 3] (by decide +kernel) hc hT hF wi (by exact rfl) ?_
              refine am_callP_I (W0 := 0) (argsL := [.int (gi σ 4 (nx x1))]) (rest := []) rfl (lk_C_81 hw) rfl wi (by decide +kernel) hc (SubW.refl _) rfl (by show arity "(I)I" 1 = true; decide +kernel) (ok_c_slotMaskFor hw (gi σ 4 (nx x1)) _) rfl ⟨by decide, by decide, Nat.le_of_eq rfl, rfl, rfl, by decide, by decide⟩ (fun r1 hr => ?_)
              refine am_blk (pc' := 114) (Ls' := [.val (.ref 0), .val (.int x1), .val (.int x2), .val (.int (gi σ 4 (nx x1))), .val (.int r1.1)]) (St' := [.int x1, .ref 5]) (σ' := r1.2) [.istore 4, .aload_n 0, .getfield 22, .iload_n 1] (by decide +kernel) hc hT hF wi (by exact rfl) ?_
              refine am_iaload_k hb0 (by decide +kernel) hc rfl ?_
              refine am_blk (pc' := 120) (Ls' := [.val (.ref 0), .val (.int x1), .val (.int x2), .val (.int (gi σ 4 (nx x1))), .val (.int r1.1)]) (St' := [.int r1.1, .int ((gi r1.2 5 (nx x1)) &&& r1.1)]) (σ' := r1.2) [.iload 4, .iand, .iload 4] (by decide +kernel) hc hT hF wi (by exact rfl) ?_
              refine am_icmp_eq (o := 17) (pc1 := 137) (by decide +kernel) hc (fun hq => ?_) (fun hq => ?_)
              · exact am_retV (by decide +kernel) hc (by decide) (by decide) (fun h W O => ⟨rfl, W, O⟩)
              · refine am_blk (pc' := 133) (Ls' := [.val (.ref 0), .val (.int x1), .val (.int x2), .val (.int (gi σ 4 (nx x1))), .val (.int r1.1)]) (St' := [.int (gi σ 4 (nx x1)), .ref 8, .int (gi σ 4 (nx x1)), .ref 8]) (σ' := r1.2) [.aload_n 0, .getfield 32, .iload_n 3, .aload_n 0, .getfield 32, .iload_n 3] (by decide +kernel) hc hT hF wi (by exact rfl) ?_
                refine am_iaload (by decide +kernel) hc rfl (fun hb1 => ?_)
                refine am_blk (pc' := 136) (Ls' := [.val (.ref 0), .val (.int x1), .val (.int x2), .val (.int (gi σ 4 (nx x1))), .val (.int r1.1)]) (St' := [.int ((gi r1.2 8 (nx (gi σ 4 (nx x1)))) ||| x2), .int (gi σ 4 (nx x1)), .ref 8]) (σ' := r1.2) [.iload_n 2, .ior] (by decide +kernel) hc hT hF wi (by exact rfl) ?_
                refine am_iastore_k hb1 (y := ((gi r1.2 8 (nx (gi σ 4 (nx x1)))) ||| x2)) rfl (by decide +kernel) hc rfl ?_
                exact am_retV (by decide +kernel) hc (by decide) (by decide) (fun h W O => ⟨rfl, W, O⟩)
      · exact am_retV (by decide +kernel) hc (by decide) (by decide) (fun h W O => ⟨rfl, W, O⟩)
def c_refreshPage (x1 : Int32) (σ : Sg) : Option Sg :=
  if x1 < 0 then (some σ) else (if x1 < (16 : Int32) then (c_refreshPage_17 400 x1 ((1 : Int32) <<< (x1 &&& 31)) (0 : Int32) σ) else (some σ))
set_option maxRecDepth 65536 in
set_option maxHeartbeats 4000000 in
theorem ok_c_refreshPage (hw : WH a0 Z) (x1 : Int32) (σ : Sg) : ∀ x, c_refreshPage x1 σ = some x → Con l Z "ConservativeBiY" fsC (⟨"ConservativeBiY", "refreshPage", "(I)V"⟩ : MethodName) prog_1_method_16_code 5 none rm_c_refreshPage wC [.ref 0, .int x1] σ (fV x).1 (fV x).2 := by
  refine am_con pnC ?_
  intro p e s m below meth c A n0 h0 hc
  have hT := tabC hw "refreshPage"
  have hF := fsokC hw
  have wi := wiC hw
  unfold c_refreshPage
  refine am_blk (pc' := 1) (Ls' := [.val (.ref 0), .val (.int x1), .unset, .unset, .unset]) (St' := [.int x1]) (σ' := σ) [.iload_n 1] (by decide +kernel) hc hT hF wi (by exact rfl) ?_
  refine am_if_lt (o := 9) (pc1 := 10) (by decide +kernel) hc (fun hq => ?_) (fun hq => ?_)
  · exact am_retV (by decide +kernel) hc (by decide) (by decide) (fun h W O => ⟨rfl, W, O⟩)
  · refine am_blk (pc' := 7) (Ls' := [.val (.ref 0), .val (.int x1), .unset, .unset, .unset]) (St' := [.int (16 : Int32), .int x1]) (σ' := σ) [.iload_n 1, .bipush 16] (by decide +kernel) hc hT hF wi (by exact rfl) ?_
    refine am_icmp_lt (o := 4) (pc1 := 11) (by decide +kernel) hc (fun hq => ?_) (fun hq => ?_)
    · refine am_blk (pc' := 17) (Ls' := [.val (.ref 0), .val (.int x1), .val (.int ((1 : Int32) <<< (x1 &&& 31))), .val (.int (0 : Int32)), .unset]) (St' := []) (σ' := σ) [.iconst 1, .iload_n 1, .ishl, .istore_n 2, .iconst 0, .istore_n 3] (by decide +kernel) hc hT hF wi (by exact rfl) ?_
      exact am_wk (Ls' := [.val (.ref 0), .val (.int x1), .val (.int ((1 : Int32) <<< (x1 &&& 31))), .val (.int (0 : Int32)), .unset]) (by simp [wkL]) (okc_c_refreshPage_17 hw hc 400 x1 ((1 : Int32) <<< (x1 &&& 31)) (0 : Int32) σ)
    · exact am_retV (by decide +kernel) hc (by decide) (by decide) (fun h W O => ⟨rfl, W, O⟩)
abbrev rm_c_placeObject : Room := { frames := 2, cells := 0, slots := 0, locals := 30 }
def c_placeObject (x1 : Int32) (x2 : Int32) (σ : Sg) : Option (Int32 × Sg) :=
  if inb x1 16 = true then ((c_slotStart x1 x2 (si (si (si σ 5 (nx x1) ((gi σ 5 (nx x1)) ||| ((1 : Int32) <<< (x2 &&& 31)))) 6 (nx x1) ((gi σ 6 (nx x1)) + (1 : Int32))) 0 15 ((gi σ 0 15) + (1 : Int32)))).bind fun r1 => (c_clearWords r1.1 (gi r1.2 3 (nx x1)) r1.2).bind fun r2 => (c_refreshPage x1 r2).bind fun r3 => some (r1.1, r3)) else none
set_option maxRecDepth 65536 in
set_option maxHeartbeats 4000000 in
theorem ok_c_placeObject (hw : WH a0 Z) (x1 : Int32) (x2 : Int32) (σ : Sg) : ∀ x, c_placeObject x1 x2 σ = some x → Con l Z "ConservativeBiY" fsC (⟨"ConservativeBiY", "placeObject", "(II)I"⟩ : MethodName) prog_1_method_11_code 5 (some .int) rm_c_placeObject wC [.ref 0, .int x1, .int x2] σ (fI x).1 (fI x).2 := by
  refine am_con pnC ?_
  intro p e s m below meth c A n0 h0 hc
  have hT := tabC hw "placeObject"
  have hF := fsokC hw
  have wi := wiC hw
  unfold c_placeObject
  refine am_blk (pc' := 14) (Ls' := [.val (.ref 0), .val (.int x1), .val (.int x2), .val (.int ((1 : Int32) <<< (x2 &&& 31))), .unset]) (St' := [.int x1, .ref 5, .int x1, .ref 5]) (σ' := σ) [.iconst 1, .iload_n 2, .ishl, .istore_n 3, .aload_n 0, .getfield 22, .iload_n 1, .aload_n 0, .getfield 22, .iload_n 1] (by decide +kernel) hc hT hF wi (by exact rfl) ?_
  refine am_iaload (by decide +kernel) hc rfl (fun hb0 => ?_)
  refine am_blk (pc' := 17) (Ls' := [.val (.ref 0), .val (.int x1), .val (.int x2), .val (.int ((1 : Int32) <<< (x2 &&& 31))), .unset]) (St' := [.int ((gi σ 5 (nx x1)) ||| ((1 : Int32) <<< (x2 &&& 31))), .int x1, .ref 5]) (σ' := σ) [.iload_n 3, .ior] (by decide +kernel) hc hT hF wi (by exact rfl) ?_
  refine am_iastore_k hb0 (y := ((gi σ 5 (nx x1)) ||| ((1 : Int32) <<< (x2 &&& 31)))) rfl (by decide +kernel) hc rfl ?_
  refine am_blk (pc' := 28) (Ls' := [.val (.ref 0), .val (.int x1), .val (.int x2), .val (.int ((1 : Int32) <<< (x2 &&& 31))), .unset]) (St' := [.int x1, .ref 6, .int x1, .ref 6]) (σ' := si σ 5 (nx x1) ((gi σ 5 (nx x1)) ||| ((1 : Int32) <<< (x2 &&& 31)))) [.aload_n 0, .getfield 25, .iload_n 1, .aload_n 0, .getfield 25, .iload_n 1] (by decide +kernel) hc hT hF wi (by exact rfl) ?_
  refine am_iaload_k hb0 (by decide +kernel) hc rfl ?_
  refine am_blk (pc' := 31) (Ls' := [.val (.ref 0), .val (.int x1), .val (.int x2), .val (.int ((1 : Int32) <<< (x2 &&& 31))), .unset]) (St' := [.int ((gi σ 6 (nx x1)) + (1 : Int32)), .int x1, .ref 6]) (σ' := si σ 5 (nx x1) ((gi σ 5 (nx x1)) ||| ((1 : Int32) <<< (x2 &&& 31)))) [.iconst 1, .iadd] (by decide +kernel) hc hT hF wi (by exact rfl) ?_
  refine am_iastore_k hb0 (y := ((gi σ 6 (nx x1)) + (1 : Int32))) rfl (by decide +kernel) hc rfl ?_
  refine am_blk (pc' := 45) (Ls' := [.val (.ref 0), .val (.int x1), .val (.int x2), .val (.int ((1 : Int32) <<< (x2 &&& 31))), .unset]) (St' := [.int x2, .int x1, .ref 0]) (σ' := si (si (si σ 5 (nx x1) ((gi σ 5 (nx x1)) ||| ((1 : Int32) <<< (x2 &&& 31)))) 6 (nx x1) ((gi σ 6 (nx x1)) + (1 : Int32))) 0 15 ((gi σ 0 15) + (1 : Int32))) [.aload_n 0, .aload_n 0, .getfield 61, .iconst 1, .iadd, .putfield 61, .aload_n 0, .iload_n 1, .iload_n 2] (by decide +kernel) hc hT hF wi (by exact rfl) ?_
  refine am_callP_I (W0 := 0) (argsL := [.int x1, .int x2]) (rest := []) rfl (lk_C_88 hw) rfl wi (by decide +kernel) hc (SubW.refl _) rfl (by show arity "(II)I" 2 = true; decide +kernel) (ok_c_slotStart hw x1 x2 _) rfl ⟨by decide, by decide, Nat.le_of_eq rfl, rfl, rfl, by decide, by decide⟩ (fun r1 hr => ?_)
  refine am_blk (pc' := 58) (Ls' := [.val (.ref 0), .val (.int x1), .val (.int x2), .val (.int ((1 : Int32) <<< (x2 &&& 31))), .val (.int r1.1)]) (St' := [.int x1, .ref 3, .int r1.1, .ref 0]) (σ' := r1.2) [.istore 4, .aload_n 0, .iload 4, .aload_n 0, .getfield 16, .iload_n 1] (by decide +kernel) hc hT hF wi (by exact rfl) ?_
  refine am_iaload_k hb0 (by decide +kernel) hc rfl ?_
  refine am_callP_V (W0 := 0) (argsL := [.int r1.1, .int (gi r1.2 3 (nx x1))]) (rest := []) rfl (lk_C_91 hw) rfl wi (by decide +kernel) hc (SubW.refl _) rfl (by show arity "(II)V" 2 = true; decide +kernel) (ok_c_clearWords hw r1.1 (gi r1.2 3 (nx x1)) _) rfl ⟨by decide, by decide, Nat.le_of_eq rfl, rfl, rfl, by decide, by decide⟩ (fun r2 hr => ?_)
  refine am_blk (pc' := 64) (Ls' := [.val (.ref 0), .val (.int x1), .val (.int x2), .val (.int ((1 : Int32) <<< (x2 &&& 31))), .val (.int r1.1)]) (St' := [.int x1, .ref 0]) (σ' := r2) [.aload_n 0, .iload_n 1] (by decide +kernel) hc hT hF wi (by exact rfl) ?_
  refine am_callP_V (W0 := 0) (argsL := [.int x1]) (rest := []) rfl (lk_C_95 hw) rfl wi (by decide +kernel) hc (SubW.refl _) rfl (by show arity "(I)V" 1 = true; decide +kernel) (ok_c_refreshPage hw x1 _) rfl ⟨by decide, by decide, Nat.le_of_eq rfl, rfl, rfl, by decide, by decide⟩ (fun r3 hr => ?_)
  refine am_blk (pc' := 69) (Ls' := [.val (.ref 0), .val (.int x1), .val (.int x2), .val (.int ((1 : Int32) <<< (x2 &&& 31))), .val (.int r1.1)]) (St' := [.int r1.1]) (σ' := r3) [.iload 4] (by decide +kernel) hc hT hF wi (by exact rfl) ?_
  exact am_retI (by decide +kernel) hc (by decide) (by decide) (fun h W O => ⟨rfl, W, O⟩)
abbrev rm_c_allocInClassPage : Room := { frames := 3, cells := 0, slots := 0, locals := 46 }
def c_allocInClassPage (x1 : Int32) (σ : Sg) : Option (Int32 × Sg) :=
  if x1 < 0 then (some ((0 : Int32), σ)) else (if (4 : Int32) < x1 then (some ((0 : Int32), σ)) else (if inb x1 5 = true then ((c_lowestBit (gi σ 8 (nx x1)) σ).bind fun r1 => if r1.1 < 0 then (some ((0 : Int32), r1.2)) else (if r1.1 < (gi r1.2 0 10) then ((c_slotMaskFor x1 r1.2).bind fun r2 => if inb r1.1 16 = true then ((c_lowestBit (((gi r2.2 5 (nx r1.1)) ^^^ (-1 : Int32)) &&& r2.1) r2.2).bind fun r3 => if r3.1 < 0 then (some ((0 : Int32), r3.2)) else ((c_placeObject r1.1 r3.1 r3.2).bind fun r4 => some (r4.1, r4.2))) else none) else (some ((0 : Int32), r1.2)))) else none))
set_option maxRecDepth 65536 in
set_option maxHeartbeats 4000000 in
theorem ok_c_allocInClassPage (hw : WH a0 Z) (x1 : Int32) (σ : Sg) : ∀ x, c_allocInClassPage x1 σ = some x → Con l Z "ConservativeBiY" fsC (⟨"ConservativeBiY", "allocInClassPage", "(I)I"⟩ : MethodName) prog_1_method_9_code 6 (some .int) rm_c_allocInClassPage wC [.ref 0, .int x1] σ (fI x).1 (fI x).2 := by
  refine am_con pnC ?_
  intro p e s m below meth c A n0 h0 hc
  have hT := tabC hw "allocInClassPage"
  have hF := fsokC hw
  have wi := wiC hw
  unfold c_allocInClassPage
  refine am_blk (pc' := 1) (Ls' := [.val (.ref 0), .val (.int x1), .unset, .unset, .unset, .unset]) (St' := [.int x1]) (σ' := σ) [.iload_n 1] (by decide +kernel) hc hT hF wi (by exact rfl) ?_
  refine am_if_lt (o := 8) (pc1 := 9) (by decide +kernel) hc (fun hq => ?_) (fun hq => ?_)
  · refine am_blk (pc' := 10) (Ls' := [.val (.ref 0), .val (.int x1), .unset, .unset, .unset, .unset]) (St' := [.int (0 : Int32)]) (σ' := σ) [.iconst 0] (by decide +kernel) hc hT hF wi (by exact rfl) ?_
    exact am_retI (by decide +kernel) hc (by decide) (by decide) (fun h W O => ⟨rfl, W, O⟩)
  · refine am_blk (pc' := 6) (Ls' := [.val (.ref 0), .val (.int x1), .unset, .unset, .unset, .unset]) (St' := [.int (4 : Int32), .int x1]) (σ' := σ) [.iload_n 1, .iconst 4] (by decide +kernel) hc hT hF wi (by exact rfl) ?_
    refine am_icmp_le (o := 5) (pc1 := 11) (by decide +kernel) hc (fun hq => ?_) (fun hq => ?_)
    · refine am_blk (pc' := 10) (Ls' := [.val (.ref 0), .val (.int x1), .unset, .unset, .unset, .unset]) (St' := [.int (0 : Int32)]) (σ' := σ) [.iconst 0] (by decide +kernel) hc hT hF wi (by exact rfl) ?_
      exact am_retI (by decide +kernel) hc (by decide) (by decide) (fun h W O => ⟨rfl, W, O⟩)
    · refine am_blk (pc' := 17) (Ls' := [.val (.ref 0), .val (.int x1), .unset, .unset, .unset, .unset]) (St' := [.int x1, .ref 8, .ref 0]) (σ' := σ) [.aload_n 0, .aload_n 0, .getfield 32, .iload_n 1] (by decide +kernel) hc hT hF wi (by exact rfl) ?_
      refine am_iaload (by decide +kernel) hc rfl (fun hb0 => ?_)
      refine am_callP_I (W0 := 0) (argsL := [.int (gi σ 8 (nx x1))]) (rest := []) rfl (lk_C_78 hw) rfl wi (by decide +kernel) hc (SubW.refl _) rfl (by show arity "(I)I" 1 = true; decide +kernel) (ok_c_lowestBit hw (gi σ 8 (nx x1)) _) rfl ⟨by decide, by decide, Nat.le_of_eq rfl, rfl, rfl, by decide, by decide⟩ (fun r1 hr => ?_)
      refine am_blk (pc' := 23) (Ls' := [.val (.ref 0), .val (.int x1), .val (.int r1.1), .unset, .unset, .unset]) (St' := [.int r1.1]) (σ' := r1.2) [.istore_n 2, .iload_n 2] (by decide +kernel) hc hT hF wi (by exact rfl) ?_
      refine am_if_lt (o := 11) (pc1 := 34) (by decide +kernel) hc (fun hq => ?_) (fun hq => ?_)
      · refine am_blk (pc' := 35) (Ls' := [.val (.ref 0), .val (.int x1), .val (.int r1.1), .unset, .unset, .unset]) (St' := [.int (0 : Int32)]) (σ' := r1.2) [.iconst 0] (by decide +kernel) hc hT hF wi (by exact rfl) ?_
        exact am_retI (by decide +kernel) hc (by decide) (by decide) (fun h W O => ⟨rfl, W, O⟩)
      · refine am_blk (pc' := 31) (Ls' := [.val (.ref 0), .val (.int x1), .val (.int r1.1), .unset, .unset, .unset]) (St' := [.int (gi r1.2 0 10), .int r1.1]) (σ' := r1.2) [.iload_n 2, .aload_n 0, .getfield 41] (by decide +kernel) hc hT hF wi (by exact rfl) ?_
        refine am_icmp_lt (o := 5) (pc1 := 36) (by decide +kernel) hc (fun hq => ?_) (fun hq => ?_)
        · refine am_blk (pc' := 38) (Ls' := [.val (.ref 0), .val (.int x1), .val (.int r1.1), .unset, .unset, .unset]) (St' := [.int x1, .ref 0]) (σ' := r1.2) [.aload_n 0, .iload_n 1] (by decide +kernel) hc hT hF wi (by exact rfl) ?_
          refine am_callP_I (W0 := 0) (argsL := [.int x1]) (rest := []) rfl (lk_C_81 hw) rfl wi (by decide +kernel) hc (SubW.refl _) rfl (by show arity "(I)I" 1 = true; decide +kernel) (ok_c_slotMaskFor hw x1 _) rfl ⟨by decide, by decide, Nat.le_of_eq rfl, rfl, rfl, by decide, by decide⟩ (fun r2 hr => ?_)
          refine am_blk (pc' := 47) (Ls' := [.val (.ref 0), .val (.int x1), .val (.int r1.1), .val (.int r2.1), .unset, .unset]) (St' := [.int r1.1, .ref 5]) (σ' := r2.2) [.istore_n 3, .aload_n 0, .getfield 22, .iload_n 2] (by decide +kernel) hc hT hF wi (by exact rfl) ?_
          refine am_iaload (by decide +kernel) hc rfl (fun hb1 => ?_)
          refine am_blk (pc' := 57) (Ls' := [.val (.ref 0), .val (.int x1), .val (.int r1.1), .val (.int r2.1), .val (.int (((gi r2.2 5 (nx r1.1)) ^^^ (-1 : Int32)) &&& r2.1)), .unset]) (St' := [.int (((gi r2.2 5 (nx r1.1)) ^^^ (-1 : Int32)) &&& r2.1), .ref 0]) (σ' := r2.2) [.iconst (-1), .ixor, .iload_n 3, .iand, .istore 4, .aload_n 0, .iload 4] (by decide +kernel) hc hT hF wi (by exact rfl) ?_
          refine am_callP_I (W0 := 0) (argsL := [.int (((gi r2.2 5 (nx r1.1)) ^^^ (-1 : Int32)) &&& r2.1)]) (rest := []) rfl (lk_C_78 hw) rfl wi (by decide +kernel) hc (SubW.refl _) rfl (by show arity "(I)I" 1 = true; decide +kernel) (ok_c_lowestBit hw (((gi r2.2 5 (nx r1.1)) ^^^ (-1 : Int32)) &&& r2.1) _) rfl ⟨by decide, by decide, Nat.le_of_eq rfl, rfl, rfl, by decide, by decide⟩ (fun r3 hr => ?_)
          refine am_blk (pc' := 64) (Ls' := [.val (.ref 0), .val (.int x1), .val (.int r1.1), .val (.int r2.1), .val (.int (((gi r2.2 5 (nx r1.1)) ^^^ (-1 : Int32)) &&& r2.1)), .val (.int r3.1)]) (St' := [.int r3.1]) (σ' := r3.2) [.istore 5, .iload 5] (by decide +kernel) hc hT hF wi (by exact rfl) ?_
          refine am_if_ge (o := 5) (pc1 := 69) (by decide +kernel) hc (fun hq => ?_) (fun hq => ?_)
          · refine am_blk (pc' := 68) (Ls' := [.val (.ref 0), .val (.int x1), .val (.int r1.1), .val (.int r2.1), .val (.int (((gi r2.2 5 (nx r1.1)) ^^^ (-1 : Int32)) &&& r2.1)), .val (.int r3.1)]) (St' := [.int (0 : Int32)]) (σ' := r3.2) [.iconst 0] (by decide +kernel) hc hT hF wi (by exact rfl) ?_
            exact am_retI (by decide +kernel) hc (by decide) (by decide) (fun h W O => ⟨rfl, W, O⟩)
          · refine am_blk (pc' := 73) (Ls' := [.val (.ref 0), .val (.int x1), .val (.int r1.1), .val (.int r2.1), .val (.int (((gi r2.2 5 (nx r1.1)) ^^^ (-1 : Int32)) &&& r2.1)), .val (.int r3.1)]) (St' := [.int r3.1, .int r1.1, .ref 0]) (σ' := r3.2) [.aload_n 0, .iload_n 2, .iload 5] (by decide +kernel) hc hT hF wi (by exact rfl) ?_
            refine am_callP_I (W0 := 0) (argsL := [.int r1.1, .int r3.1]) (rest := []) rfl (lk_C_84 hw) rfl wi (by decide +kernel) hc (SubW.refl _) rfl (by show arity "(II)I" 2 = true; decide +kernel) (ok_c_placeObject hw r1.1 r3.1 _) rfl ⟨by decide, by decide, Nat.le_of_eq rfl, rfl, rfl, by decide, by decide⟩ (fun r4 hr => ?_)
            exact am_retI (by decide +kernel) hc (by decide) (by decide) (fun h W O => ⟨rfl, W, O⟩)
        · refine am_blk (pc' := 35) (Ls' := [.val (.ref 0), .val (.int x1), .val (.int r1.1), .unset, .unset, .unset]) (St' := [.int (0 : Int32)]) (σ' := r1.2) [.iconst 0] (by decide +kernel) hc hT hF wi (by exact rfl) ?_
          exact am_retI (by decide +kernel) hc (by decide) (by decide) (fun h W O => ⟨rfl, W, O⟩)
abbrev rm_c_allocInFreshPage : Room := { frames := 3, cells := 0, slots := 0, locals := 46 }
def c_allocInFreshPage (x1 : Int32) (σ : Sg) : Option (Int32 × Sg) :=
  if x1 < 0 then (some ((0 : Int32), σ)) else (if (4 : Int32) < x1 then (some ((0 : Int32), σ)) else ((c_validPageMask σ).bind fun r1 => (c_lowestBit (((gi σ 0 13) &&& ((gi σ 0 14) ^^^ (-1 : Int32))) &&& r1.1) r1.2).bind fun r2 => if r2.1 < 0 then (some ((0 : Int32), r2.2)) else (if r2.1 < (gi r2.2 0 10) then (if inb r2.1 16 = true then ((c_placeObject r2.1 (0 : Int32) (si (si (si (si r2.2 3 (nx r2.1) ((1 : Int32) <<< (x1 &&& 31))) 4 (nx r2.1) x1) 5 (nx r2.1) (0 : Int32)) 6 (nx r2.1) (0 : Int32))).bind fun r3 => some (r3.1, r3.2)) else none) else (some ((0 : Int32), r2.2)))))
set_option maxRecDepth 65536 in
set_option maxHeartbeats 4000000 in
theorem ok_c_allocInFreshPage (hw : WH a0 Z) (x1 : Int32) (σ : Sg) : ∀ x, c_allocInFreshPage x1 σ = some x → Con l Z "ConservativeBiY" fsC (⟨"ConservativeBiY", "allocInFreshPage", "(I)I"⟩ : MethodName) prog_1_method_10_code 4 (some .int) rm_c_allocInFreshPage wC [.ref 0, .int x1] σ (fI x).1 (fI x).2 := by
  refine am_con pnC ?_
  intro p e s m below meth c A n0 h0 hc
  have hT := tabC hw "allocInFreshPage"
  have hF := fsokC hw
  have wi := wiC hw
  unfold c_allocInFreshPage
  refine am_blk (pc' := 1) (Ls' := [.val (.ref 0), .val (.int x1), .unset, .unset]) (St' := [.int x1]) (σ' := σ) [.iload_n 1] (by decide +kernel) hc hT hF wi (by exact rfl) ?_
  refine am_if_lt (o := 8) (pc1 := 9) (by decide +kernel) hc (fun hq => ?_) (fun hq => ?_)
  · refine am_blk (pc' := 10) (Ls' := [.val (.ref 0), .val (.int x1), .unset, .unset]) (St' := [.int (0 : Int32)]) (σ' := σ) [.iconst 0] (by decide +kernel) hc hT hF wi (by exact rfl) ?_
    exact am_retI (by decide +kernel) hc (by decide) (by decide) (fun h W O => ⟨rfl, W, O⟩)
  · refine am_blk (pc' := 6) (Ls' := [.val (.ref 0), .val (.int x1), .unset, .unset]) (St' := [.int (4 : Int32), .int x1]) (σ' := σ) [.iload_n 1, .iconst 4] (by decide +kernel) hc hT hF wi (by exact rfl) ?_
    refine am_icmp_le (o := 5) (pc1 := 11) (by decide +kernel) hc (fun hq => ?_) (fun hq => ?_)
    · refine am_blk (pc' := 10) (Ls' := [.val (.ref 0), .val (.int x1), .unset, .unset]) (St' := [.int (0 : Int32)]) (σ' := σ) [.iconst 0] (by decide +kernel) hc hT hF wi (by exact rfl) ?_
      exact am_retI (by decide +kernel) hc (by decide) (by decide) (fun h W O => ⟨rfl, W, O⟩)
    · refine am_blk (pc' := 23) (Ls' := [.val (.ref 0), .val (.int x1), .unset, .unset]) (St' := [.ref 0, .int ((gi σ 0 13) &&& ((gi σ 0 14) ^^^ (-1 : Int32)))]) (σ' := σ) [.aload_n 0, .getfield 55, .aload_n 0, .getfield 58, .iconst (-1), .ixor, .iand, .aload_n 0] (by decide +kernel) hc hT hF wi (by exact rfl) ?_
      refine am_callP_I (W0 := 1) (argsL := []) (rest := [.int ((gi σ 0 13) &&& ((gi σ 0 14) ^^^ (-1 : Int32)))]) rfl (lk_C_51 hw) rfl wi (by decide +kernel) hc (SubW.refl _) rfl (by show arity "()I" 0 = true; decide +kernel) (ok_c_validPageMask hw _) rfl ⟨by decide, by decide, Nat.le_of_eq rfl, rfl, rfl, by decide, by decide⟩ (fun r1 hr => ?_)
      refine am_blk (pc' := 30) (Ls' := [.val (.ref 0), .val (.int x1), .val (.int (((gi σ 0 13) &&& ((gi σ 0 14) ^^^ (-1 : Int32))) &&& r1.1)), .unset]) (St' := [.int (((gi σ 0 13) &&& ((gi σ 0 14) ^^^ (-1 : Int32))) &&& r1.1), .ref 0]) (σ' := r1.2) [.iand, .istore_n 2, .aload_n 0, .iload_n 2] (by decide +kernel) hc hT hF wi (by exact rfl) ?_
      refine am_callP_I (W0 := 0) (argsL := [.int (((gi σ 0 13) &&& ((gi σ 0 14) ^^^ (-1 : Int32))) &&& r1.1)]) (rest := []) rfl (lk_C_78 hw) rfl wi (by decide +kernel) hc (SubW.refl _) rfl (by show arity "(I)I" 1 = true; decide +kernel) (ok_c_lowestBit hw (((gi σ 0 13) &&& ((gi σ 0 14) ^^^ (-1 : Int32))) &&& r1.1) _) rfl ⟨by decide, by decide, Nat.le_of_eq rfl, rfl, rfl, by decide, by decide⟩ (fun r2 hr => ?_)
      refine am_blk (pc' := 35) (Ls' := [.val (.ref 0), .val (.int x1), .val (.int (((gi σ 0 13) &&& ((gi σ 0 14) ^^^ (-1 : Int32))) &&& r1.1)), .val (.int r2.1)]) (St' := [.int r2.1]) (σ' := r2.2) [.istore_n 3, .iload_n 3] (by decide +kernel) hc hT hF wi (by exact rfl) ?_
      refine am_if_lt (o := 11) (pc1 := 46) (by decide +kernel) hc (fun hq => ?_) (fun hq => ?_)
      · refine am_blk (pc' := 47) (Ls' := [.val (.ref 0), .val (.int x1), .val (.int (((gi σ 0 13) &&& ((gi σ 0 14) ^^^ (-1 : Int32))) &&& r1.1)), .val (.int r2.1)]) (St' := [.int (0 : Int32)]) (σ' := r2.2) [.iconst 0] (by decide +kernel) hc hT hF wi (by exact rfl) ?_
        exact am_retI (by decide +kernel) hc (by decide) (by decide) (fun h W O => ⟨rfl, W, O⟩)
      · refine am_blk (pc' := 43) (Ls' := [.val (.ref 0), .val (.int x1), .val (.int (((gi σ 0 13) &&& ((gi σ 0 14) ^^^ (-1 : Int32))) &&& r1.1)), .val (.int r2.1)]) (St' := [.int (gi r2.2 0 10), .int r2.1]) (σ' := r2.2) [.iload_n 3, .aload_n 0, .getfield 41] (by decide +kernel) hc hT hF wi (by exact rfl) ?_
        refine am_icmp_lt (o := 5) (pc1 := 48) (by decide +kernel) hc (fun hq => ?_) (fun hq => ?_)
        · refine am_blk (pc' := 56) (Ls' := [.val (.ref 0), .val (.int x1), .val (.int (((gi σ 0 13) &&& ((gi σ 0 14) ^^^ (-1 : Int32))) &&& r1.1)), .val (.int r2.1)]) (St' := [.int ((1 : Int32) <<< (x1 &&& 31)), .int r2.1, .ref 3]) (σ' := r2.2) [.aload_n 0, .getfield 16, .iload_n 3, .iconst 1, .iload_n 1, .ishl] (by decide +kernel) hc hT hF wi (by exact rfl) ?_
          refine am_iastore (y := ((1 : Int32) <<< (x1 &&& 31))) rfl (by decide +kernel) hc rfl (fun hb0 => ?_)
          refine am_blk (pc' := 63) (Ls' := [.val (.ref 0), .val (.int x1), .val (.int (((gi σ 0 13) &&& ((gi σ 0 14) ^^^ (-1 : Int32))) &&& r1.1)), .val (.int r2.1)]) (St' := [.int x1, .int r2.1, .ref 4]) (σ' := si r2.2 3 (nx r2.1) ((1 : Int32) <<< (x1 &&& 31))) [.aload_n 0, .getfield 19, .iload_n 3, .iload_n 1] (by decide +kernel) hc hT hF wi (by exact rfl) ?_
          refine am_iastore_k hb0 (y := x1) rfl (by decide +kernel) hc rfl ?_
          refine am_blk (pc' := 70) (Ls' := [.val (.ref 0), .val (.int x1), .val (.int (((gi σ 0 13) &&& ((gi σ 0 14) ^^^ (-1 : Int32))) &&& r1.1)), .val (.int r2.1)]) (St' := [.int (0 : Int32), .int r2.1, .ref 5]) (σ' := si (si r2.2 3 (nx r2.1) ((1 : Int32) <<< (x1 &&& 31))) 4 (nx r2.1) x1) [.aload_n 0, .getfield 22, .iload_n 3, .iconst 0] (by decide +kernel) hc hT hF wi (by exact rfl) ?_
          refine am_iastore_k hb0 (y := (0 : Int32)) rfl (by decide +kernel) hc rfl ?_
          refine am_blk (pc' := 77) (Ls' := [.val (.ref 0), .val (.int x1), .val (.int (((gi σ 0 13) &&& ((gi σ 0 14) ^^^ (-1 : Int32))) &&& r1.1)), .val (.int r2.1)]) (St' := [.int (0 : Int32), .int r2.1, .ref 6]) (σ' := si (si (si r2.2 3 (nx r2.1) ((1 : Int32) <<< (x1 &&& 31))) 4 (nx r2.1) x1) 5 (nx r2.1) (0 : Int32)) [.aload_n 0, .getfield 25, .iload_n 3, .iconst 0] (by decide +kernel) hc hT hF wi (by exact rfl) ?_
          refine am_iastore_k hb0 (y := (0 : Int32)) rfl (by decide +kernel) hc rfl ?_
          refine am_blk (pc' := 81) (Ls' := [.val (.ref 0), .val (.int x1), .val (.int (((gi σ 0 13) &&& ((gi σ 0 14) ^^^ (-1 : Int32))) &&& r1.1)), .val (.int r2.1)]) (St' := [.int (0 : Int32), .int r2.1, .ref 0]) (σ' := si (si (si (si r2.2 3 (nx r2.1) ((1 : Int32) <<< (x1 &&& 31))) 4 (nx r2.1) x1) 5 (nx r2.1) (0 : Int32)) 6 (nx r2.1) (0 : Int32)) [.aload_n 0, .iload_n 3, .iconst 0] (by decide +kernel) hc hT hF wi (by exact rfl) ?_
          refine am_callP_I (W0 := 0) (argsL := [.int r2.1, .int (0 : Int32)]) (rest := []) rfl (lk_C_84 hw) rfl wi (by decide +kernel) hc (SubW.refl _) rfl (by show arity "(II)I" 2 = true; decide +kernel) (ok_c_placeObject hw r2.1 (0 : Int32) _) rfl ⟨by decide, by decide, Nat.le_of_eq rfl, rfl, rfl, by decide, by decide⟩ (fun r3 hr => ?_)
          exact am_retI (by decide +kernel) hc (by decide) (by decide) (fun h W O => ⟨rfl, W, O⟩)
        · refine am_blk (pc' := 47) (Ls' := [.val (.ref 0), .val (.int x1), .val (.int (((gi σ 0 13) &&& ((gi σ 0 14) ^^^ (-1 : Int32))) &&& r1.1)), .val (.int r2.1)]) (St' := [.int (0 : Int32)]) (σ' := r2.2) [.iconst 0] (by decide +kernel) hc hT hF wi (by exact rfl) ?_
          exact am_retI (by decide +kernel) hc (by decide) (by decide) (fun h W O => ⟨rfl, W, O⟩)
abbrev rm_c_alloc : Room := { frames := 4, cells := 0, slots := 0, locals := 63 }
def c_alloc (x1 : Int32) (σ : Sg) : Option (Int32 × Sg) :=
  if x1 < (1 : Int32) then (some ((0 : Int32), σ)) else (if (16 : Int32) < x1 then (some ((0 : Int32), σ)) else ((c_classIndexFor x1 σ).bind fun r1 => (c_allocInClassPage r1.1 r1.2).bind fun r2 => if r2.1 = 0 then ((c_allocInFreshPage r1.1 r2.2).bind fun r3 => some (r3.1, r3.2)) else (some (r2.1, r2.2))))
set_option maxRecDepth 65536 in
set_option maxHeartbeats 4000000 in
theorem ok_c_alloc (hw : WH a0 Z) (x1 : Int32) (σ : Sg) : ∀ x, c_alloc x1 σ = some x → Con l Z "ConservativeBiY" fsC (⟨"ConservativeBiY", "alloc", "(I)I"⟩ : MethodName) prog_1_method_8_code 4 (some .int) rm_c_alloc wC [.ref 0, .int x1] σ (fI x).1 (fI x).2 := by
  refine am_con pnC ?_
  intro p e s m below meth c A n0 h0 hc
  have hT := tabC hw "alloc"
  have hF := fsokC hw
  have wi := wiC hw
  unfold c_alloc
  refine am_blk (pc' := 2) (Ls' := [.val (.ref 0), .val (.int x1), .unset, .unset]) (St' := [.int (1 : Int32), .int x1]) (σ' := σ) [.iload_n 1, .iconst 1] (by decide +kernel) hc hT hF wi (by exact rfl) ?_
  refine am_icmp_lt (o := 9) (pc1 := 11) (by decide +kernel) hc (fun hq => ?_) (fun hq => ?_)
  · refine am_blk (pc' := 12) (Ls' := [.val (.ref 0), .val (.int x1), .unset, .unset]) (St' := [.int (0 : Int32)]) (σ' := σ) [.iconst 0] (by decide +kernel) hc hT hF wi (by exact rfl) ?_
    exact am_retI (by decide +kernel) hc (by decide) (by decide) (fun h W O => ⟨rfl, W, O⟩)
  · refine am_blk (pc' := 8) (Ls' := [.val (.ref 0), .val (.int x1), .unset, .unset]) (St' := [.int (16 : Int32), .int x1]) (σ' := σ) [.iload_n 1, .bipush 16] (by decide +kernel) hc hT hF wi (by exact rfl) ?_
    refine am_icmp_le (o := 5) (pc1 := 13) (by decide +kernel) hc (fun hq => ?_) (fun hq => ?_)
    · refine am_blk (pc' := 12) (Ls' := [.val (.ref 0), .val (.int x1), .unset, .unset]) (St' := [.int (0 : Int32)]) (σ' := σ) [.iconst 0] (by decide +kernel) hc hT hF wi (by exact rfl) ?_
      exact am_retI (by decide +kernel) hc (by decide) (by decide) (fun h W O => ⟨rfl, W, O⟩)
    · refine am_blk (pc' := 15) (Ls' := [.val (.ref 0), .val (.int x1), .unset, .unset]) (St' := [.int x1, .ref 0]) (σ' := σ) [.aload_n 0, .iload_n 1] (by decide +kernel) hc hT hF wi (by exact rfl) ?_
      refine am_callP_I (W0 := 0) (argsL := [.int x1]) (rest := []) rfl (lk_C_68 hw) rfl wi (by decide +kernel) hc (SubW.refl _) rfl (by show arity "(I)I" 1 = true; decide +kernel) (ok_c_classIndexFor hw x1 _) rfl ⟨by decide, by decide, Nat.le_of_eq rfl, rfl, rfl, by decide, by decide⟩ (fun r1 hr => ?_)
      refine am_blk (pc' := 21) (Ls' := [.val (.ref 0), .val (.int x1), .val (.int r1.1), .unset]) (St' := [.int r1.1, .ref 0]) (σ' := r1.2) [.istore_n 2, .aload_n 0, .iload_n 2] (by decide +kernel) hc hT hF wi (by exact rfl) ?_
      refine am_callP_I (W0 := 0) (argsL := [.int r1.1]) (rest := []) rfl (lk_C_72 hw) rfl wi (by decide +kernel) hc (SubW.refl _) rfl (by show arity "(I)I" 1 = true; decide +kernel) (ok_c_allocInClassPage hw r1.1 _) rfl ⟨by decide, by decide, Nat.le_of_eq rfl, rfl, rfl, by decide, by decide⟩ (fun r2 hr => ?_)
      refine am_blk (pc' := 26) (Ls' := [.val (.ref 0), .val (.int x1), .val (.int r1.1), .val (.int r2.1)]) (St' := [.int r2.1]) (σ' := r2.2) [.istore_n 3, .iload_n 3] (by decide +kernel) hc hT hF wi (by exact rfl) ?_
      refine am_if_eq (o := 5) (pc1 := 31) (by decide +kernel) hc (fun hq => ?_) (fun hq => ?_)
      · refine am_blk (pc' := 33) (Ls' := [.val (.ref 0), .val (.int x1), .val (.int r1.1), .val (.int r2.1)]) (St' := [.int r1.1, .ref 0]) (σ' := r2.2) [.aload_n 0, .iload_n 2] (by decide +kernel) hc hT hF wi (by exact rfl) ?_
        refine am_callP_I (W0 := 0) (argsL := [.int r1.1]) (rest := []) rfl (lk_C_75 hw) rfl wi (by decide +kernel) hc (SubW.refl _) rfl (by show arity "(I)I" 1 = true; decide +kernel) (ok_c_allocInFreshPage hw r1.1 _) rfl ⟨by decide, by decide, Nat.le_of_eq rfl, rfl, rfl, by decide, by decide⟩ (fun r3 hr => ?_)
        exact am_retI (by decide +kernel) hc (by decide) (by decide) (fun h W O => ⟨rfl, W, O⟩)
      · refine am_blk (pc' := 30) (Ls' := [.val (.ref 0), .val (.int x1), .val (.int r1.1), .val (.int r2.1)]) (St' := [.int r2.1]) (σ' := r2.2) [.iload_n 3] (by decide +kernel) hc hT hF wi (by exact rfl) ?_
        exact am_retI (by decide +kernel) hc (by decide) (by decide) (fun h W O => ⟨rfl, W, O⟩)
abbrev rm_c_store : Room := { frames := 2, cells := 0, slots := 0, locals := 30 }
def c_store (x1 : Int32) (x2 : Int32) (σ : Sg) : Option (Int32 × Sg) :=
  (c_findStart x1 σ).bind fun r1 => if r1.1 = 0 then (some ((0 : Int32), r1.2)) else (if (x1 - (4096 : Int32)) < 0 then (some ((0 : Int32), r1.2)) else (if (x1 - (4096 : Int32)) < (256 : Int32) then (if inb (x1 - (4096 : Int32)) 256 = true then (some ((1 : Int32), si r1.2 2 (nx (x1 - (4096 : Int32))) x2)) else none) else (some ((0 : Int32), r1.2))))
set_option maxRecDepth 65536 in
set_option maxHeartbeats 4000000 in
theorem ok_c_store (hw : WH a0 Z) (x1 : Int32) (x2 : Int32) (σ : Sg) : ∀ x, c_store x1 x2 σ = some x → Con l Z "ConservativeBiY" fsC (⟨"ConservativeBiY", "store", "(II)Z"⟩ : MethodName) prog_1_method_17_code 5 (some .boolean) rm_c_store wC [.ref 0, .int x1, .int x2] σ (fI x).1 (fI x).2 := by
  refine am_con pnC ?_
  intro p e s m below meth c A n0 h0 hc
  have hT := tabC hw "store"
  have hF := fsokC hw
  have wi := wiC hw
  unfold c_store
  refine am_blk (pc' := 2) (Ls' := [.val (.ref 0), .val (.int x1), .val (.int x2), .unset, .unset]) (St' := [.int x1, .ref 0]) (σ' := σ) [.aload_n 0, .iload_n 1] (by decide +kernel) hc hT hF wi (by exact rfl) ?_
  refine am_callP_I (W0 := 0) (argsL := [.int x1]) (rest := []) rfl (lk_C_99 hw) rfl wi (by decide +kernel) hc (SubW.refl _) rfl (by show arity "(I)I" 1 = true; decide +kernel) (ok_c_findStart hw x1 _) rfl ⟨by decide, by decide, Nat.le_of_eq rfl, rfl, rfl, by decide, by decide⟩ (fun r1 hr => ?_)
  refine am_blk (pc' := 7) (Ls' := [.val (.ref 0), .val (.int x1), .val (.int x2), .val (.int r1.1), .unset]) (St' := [.int r1.1]) (σ' := r1.2) [.istore_n 3, .iload_n 3] (by decide +kernel) hc hT hF wi (by exact rfl) ?_
  refine am_if_ne (o := 5) (pc1 := 12) (by decide +kernel) hc (fun hq => ?_) (fun hq => ?_)
  · refine am_blk (pc' := 11) (Ls' := [.val (.ref 0), .val (.int x1), .val (.int x2), .val (.int r1.1), .unset]) (St' := [.int (0 : Int32)]) (σ' := r1.2) [.iconst 0] (by decide +kernel) hc hT hF wi (by exact rfl) ?_
    exact am_retZ (by decide +kernel) hc (by decide) (by decide) (fun h W O => ⟨rfl, W, O⟩)
  · refine am_blk (pc' := 21) (Ls' := [.val (.ref 0), .val (.int x1), .val (.int x2), .val (.int r1.1), .val (.int (x1 - (4096 : Int32)))]) (St' := [.int (x1 - (4096 : Int32))]) (σ' := r1.2) [.iload_n 1, .sipush 4096, .isub, .istore 4, .iload 4] (by decide +kernel) hc hT hF wi (by exact rfl) ?_
    refine am_if_lt (o := 11) (pc1 := 32) (by decide +kernel) hc (fun hq => ?_) (fun hq => ?_)
    · refine am_blk (pc' := 33) (Ls' := [.val (.ref 0), .val (.int x1), .val (.int x2), .val (.int r1.1), .val (.int (x1 - (4096 : Int32)))]) (St' := [.int (0 : Int32)]) (σ' := r1.2) [.iconst 0] (by decide +kernel) hc hT hF wi (by exact rfl) ?_
      exact am_retZ (by decide +kernel) hc (by decide) (by decide) (fun h W O => ⟨rfl, W, O⟩)
    · refine am_blk (pc' := 29) (Ls' := [.val (.ref 0), .val (.int x1), .val (.int x2), .val (.int r1.1), .val (.int (x1 - (4096 : Int32)))]) (St' := [.int (256 : Int32), .int (x1 - (4096 : Int32))]) (σ' := r1.2) [.iload 4, .sipush 256] (by decide +kernel) hc hT hF wi (by exact rfl) ?_
      refine am_icmp_lt (o := 5) (pc1 := 34) (by decide +kernel) hc (fun hq => ?_) (fun hq => ?_)
      · refine am_blk (pc' := 41) (Ls' := [.val (.ref 0), .val (.int x1), .val (.int x2), .val (.int r1.1), .val (.int (x1 - (4096 : Int32)))]) (St' := [.int x2, .int (x1 - (4096 : Int32)), .ref 2]) (σ' := r1.2) [.aload_n 0, .getfield 13, .iload 4, .iload_n 2] (by decide +kernel) hc hT hF wi (by exact rfl) ?_
        refine am_iastore (y := x2) rfl (by decide +kernel) hc rfl (fun hb0 => ?_)
        refine am_blk (pc' := 43) (Ls' := [.val (.ref 0), .val (.int x1), .val (.int x2), .val (.int r1.1), .val (.int (x1 - (4096 : Int32)))]) (St' := [.int (1 : Int32)]) (σ' := si r1.2 2 (nx (x1 - (4096 : Int32))) x2) [.iconst 1] (by decide +kernel) hc hT hF wi (by exact rfl) ?_
        exact am_retZ (by decide +kernel) hc (by decide) (by decide) (fun h W O => ⟨rfl, W, O⟩)
      · refine am_blk (pc' := 33) (Ls' := [.val (.ref 0), .val (.int x1), .val (.int x2), .val (.int r1.1), .val (.int (x1 - (4096 : Int32)))]) (St' := [.int (0 : Int32)]) (σ' := r1.2) [.iconst 0] (by decide +kernel) hc hT hF wi (by exact rfl) ?_
        exact am_retZ (by decide +kernel) hc (by decide) (by decide) (fun h W O => ⟨rfl, W, O⟩)
abbrev rm_c_beginMark : Room := { frames := 0, cells := 0, slots := 0, locals := 0 }
def c_beginMark_17 : Nat → Int32 → Sg → Option Sg
  | 0, _, _ => none
  | fuel + 1, x1, σ =>
    if x1 < (16 : Int32) then (if inb x1 16 = true then (c_beginMark_17 fuel (x1 + (1 : Int32)) (si σ 9 (nx x1) (0 : Int32))) else none) else (some σ)
set_option maxRecDepth 65536 in
set_option maxHeartbeats 4000000 in
theorem okc_c_beginMark_17 (hw : WH a0 Z) (hc : Cx p s m meth c Z "ConservativeBiY" prog_1_method_25_code 2 none "beginMark") : ∀ (fuel : Nat) (x1 : Int32) (σ : Sg), OkR p l e rm_c_beginMark s m args below meth c Z "ConservativeBiY" fsC n0 h0 (FM Z "ConservativeBiY" fsC A wC h0 fV) A wC 0 0 17 [.val (.ref 0), .val (.int x1)] [] σ (c_beginMark_17 fuel x1 σ) := by
  have hT := tabC hw "beginMark"
  have hF := fsokC hw
  have wi := wiC hw
  intro fuel
  induction fuel with
  | zero => intro x1 σ; exact am_none rfl
  | succ fuel ih =>
    intro x1 σ
    rw [c_beginMark_17]
    refine am_blk (pc' := 20) (Ls' := [.val (.ref 0), .val (.int x1)]) (St' := [.int (16 : Int32), .int x1]) (σ' := σ) [.iload_n 1, .bipush 16] (by decide +kernel) hc hT hF wi (by exact rfl) ?_
    refine am_icmp_ge (o := 16) (pc1 := 36) (by decide +kernel) hc (fun hq => ?_) (fun hq => ?_)
    · refine am_blk (pc' := 29) (Ls' := [.val (.ref 0), .val (.int x1)]) (St' := [.int (0 : Int32), .int x1, .ref 9]) (σ' := σ) [.aload_n 0, .getfield 35, .iload_n 1, .iconst 0] (by decide +kernel) hc hT hF wi (by exact rfl) ?_
      refine am_iastore (y := (0 : Int32)) rfl (by decide +kernel) hc rfl (fun hb0 => ?_)
      refine am_blk (pc' := 17) (Ls' := [.val (.ref 0), .val (.int (x1 + (1 : Int32)))]) (St' := []) (σ' := si σ 9 (nx x1) (0 : Int32)) [.iinc 1 1, .goto (-16)] (by decide +kernel) hc hT hF wi (by exact rfl) ?_
      exact am_wk (Ls' := [.val (.ref 0), .val (.int (x1 + (1 : Int32)))]) (by simp [wkL]) (ih (x1 + (1 : Int32)) (si σ 9 (nx x1) (0 : Int32)))
    · exact am_retV (by decide +kernel) hc (by decide) (by decide) (fun h W O => ⟨rfl, W, O⟩)
def c_beginMark (σ : Sg) : Option Sg :=
  c_beginMark_17 400 (0 : Int32) (si (si (si σ 0 16 (0 : Int32)) 0 17 (0 : Int32)) 0 18 (0 : Int32))
set_option maxRecDepth 65536 in
set_option maxHeartbeats 4000000 in
theorem ok_c_beginMark (hw : WH a0 Z) (σ : Sg) : ∀ x, c_beginMark σ = some x → Con l Z "ConservativeBiY" fsC (⟨"ConservativeBiY", "beginMark", "()V"⟩ : MethodName) prog_1_method_25_code 2 none rm_c_beginMark wC [.ref 0] σ (fV x).1 (fV x).2 := by
  refine am_con pnC ?_
  intro p e s m below meth c A n0 h0 hc
  have hT := tabC hw "beginMark"
  have hF := fsokC hw
  have wi := wiC hw
  unfold c_beginMark
  refine am_blk (pc' := 17) (Ls' := [.val (.ref 0), .val (.int (0 : Int32))]) (St' := []) (σ' := si (si (si σ 0 16 (0 : Int32)) 0 17 (0 : Int32)) 0 18 (0 : Int32)) [.aload_n 0, .iconst 0, .putfield 127, .aload_n 0, .iconst 0, .putfield 121, .aload_n 0, .iconst 0, .putfield 130, .iconst 0, .istore_n 1] (by decide +kernel) hc hT hF wi (by exact rfl) ?_
  exact am_wk (Ls' := [.val (.ref 0), .val (.int (0 : Int32))]) (by simp [wkL]) (okc_c_beginMark_17 hw hc 400 (0 : Int32) (si (si (si σ 0 16 (0 : Int32)) 0 17 (0 : Int32)) 0 18 (0 : Int32)))
abbrev rm_c_markObject : Room := { frames := 0, cells := 0, slots := 0, locals := 0 }
def c_markObject (x1 : Int32) (x2 : Int32) (x3 : Int32) (σ : Sg) : Option Sg :=
  if x2 < 0 then (some σ) else (if x2 < (16 : Int32) then (if inb x1 16 = true then (if ((gi σ 9 (nx x1)) &&& ((1 : Int32) <<< (x2 &&& 31))) = 0 then (if (gi σ 0 16) < 0 then (some (si (si σ 9 (nx x1) ((gi σ 9 (nx x1)) ||| ((1 : Int32) <<< (x2 &&& 31)))) 0 17 ((gi σ 0 17) + (1 : Int32)))) else (if (gi σ 0 16) < (256 : Int32) then (if inb (gi σ 0 16) 256 = true then (some (si (si (si (si σ 9 (nx x1) ((gi σ 9 (nx x1)) ||| ((1 : Int32) <<< (x2 &&& 31)))) 0 17 ((gi σ 0 17) + (1 : Int32))) 10 (nx (gi σ 0 16)) x3) 0 16 ((gi σ 0 16) + (1 : Int32)))) else none) else (some (si (si σ 9 (nx x1) ((gi σ 9 (nx x1)) ||| ((1 : Int32) <<< (x2 &&& 31)))) 0 17 ((gi σ 0 17) + (1 : Int32)))))) else (some σ)) else none) else (some σ))
set_option maxRecDepth 65536 in
set_option maxHeartbeats 4000000 in
theorem ok_c_markObject (hw : WH a0 Z) (x1 : Int32) (x2 : Int32) (x3 : Int32) (σ : Sg) : ∀ x, c_markObject x1 x2 x3 σ = some x → Con l Z "ConservativeBiY" fsC (⟨"ConservativeBiY", "markObject", "(III)V"⟩ : MethodName) prog_1_method_30_code 5 none rm_c_markObject wC [.ref 0, .int x1, .int x2, .int x3] σ (fV x).1 (fV x).2 := by
  refine am_con pnC ?_
  intro p e s m below meth c A n0 h0 hc
  have hT := tabC hw "markObject"
  have hF := fsokC hw
  have wi := wiC hw
  unfold c_markObject
  refine am_blk (pc' := 1) (Ls' := [.val (.ref 0), .val (.int x1), .val (.int x2), .val (.int x3), .unset]) (St' := [.int x2]) (σ' := σ) [.iload_n 2] (by decide +kernel) hc hT hF wi (by exact rfl) ?_
  refine am_if_lt (o := 9) (pc1 := 10) (by decide +kernel) hc (fun hq => ?_) (fun hq => ?_)
  · exact am_retV (by decide +kernel) hc (by decide) (by decide) (fun h W O => ⟨rfl, W, O⟩)
  · refine am_blk (pc' := 7) (Ls' := [.val (.ref 0), .val (.int x1), .val (.int x2), .val (.int x3), .unset]) (St' := [.int (16 : Int32), .int x2]) (σ' := σ) [.iload_n 2, .bipush 16] (by decide +kernel) hc hT hF wi (by exact rfl) ?_
    refine am_icmp_lt (o := 4) (pc1 := 11) (by decide +kernel) hc (fun hq => ?_) (fun hq => ?_)
    · refine am_blk (pc' := 21) (Ls' := [.val (.ref 0), .val (.int x1), .val (.int x2), .val (.int x3), .val (.int ((1 : Int32) <<< (x2 &&& 31)))]) (St' := [.int x1, .ref 9]) (σ' := σ) [.iconst 1, .iload_n 2, .ishl, .istore 4, .aload_n 0, .getfield 35, .iload_n 1] (by decide +kernel) hc hT hF wi (by exact rfl) ?_
      refine am_iaload (by decide +kernel) hc rfl (fun hb0 => ?_)
      refine am_blk (pc' := 25) (Ls' := [.val (.ref 0), .val (.int x1), .val (.int x2), .val (.int x3), .val (.int ((1 : Int32) <<< (x2 &&& 31)))]) (St' := [.int ((gi σ 9 (nx x1)) &&& ((1 : Int32) <<< (x2 &&& 31)))]) (σ' := σ) [.iload 4, .iand] (by decide +kernel) hc hT hF wi (by exact rfl) ?_
      refine am_if_eq (o := 4) (pc1 := 29) (by decide +kernel) hc (fun hq => ?_) (fun hq => ?_)
      · refine am_blk (pc' := 39) (Ls' := [.val (.ref 0), .val (.int x1), .val (.int x2), .val (.int x3), .val (.int ((1 : Int32) <<< (x2 &&& 31)))]) (St' := [.int x1, .ref 9, .int x1, .ref 9]) (σ' := σ) [.aload_n 0, .getfield 35, .iload_n 1, .aload_n 0, .getfield 35, .iload_n 1] (by decide +kernel) hc hT hF wi (by exact rfl) ?_
        refine am_iaload_k hb0 (by decide +kernel) hc rfl ?_
        refine am_blk (pc' := 43) (Ls' := [.val (.ref 0), .val (.int x1), .val (.int x2), .val (.int x3), .val (.int ((1 : Int32) <<< (x2 &&& 31)))]) (St' := [.int ((gi σ 9 (nx x1)) ||| ((1 : Int32) <<< (x2 &&& 31))), .int x1, .ref 9]) (σ' := σ) [.iload 4, .ior] (by decide +kernel) hc hT hF wi (by exact rfl) ?_
        refine am_iastore_k hb0 (y := ((gi σ 9 (nx x1)) ||| ((1 : Int32) <<< (x2 &&& 31)))) rfl (by decide +kernel) hc rfl ?_
        refine am_blk (pc' := 58) (Ls' := [.val (.ref 0), .val (.int x1), .val (.int x2), .val (.int x3), .val (.int ((1 : Int32) <<< (x2 &&& 31)))]) (St' := [.int (gi σ 0 16)]) (σ' := si (si σ 9 (nx x1) ((gi σ 9 (nx x1)) ||| ((1 : Int32) <<< (x2 &&& 31)))) 0 17 ((gi σ 0 17) + (1 : Int32))) [.aload_n 0, .aload_n 0, .getfield 121, .iconst 1, .iadd, .putfield 121, .aload_n 0, .getfield 127] (by decide +kernel) hc hT hF wi (by exact rfl) ?_
        refine am_if_lt (o := 33) (pc1 := 91) (by decide +kernel) hc (fun hq => ?_) (fun hq => ?_)
        · exact am_retV (by decide +kernel) hc (by decide) (by decide) (fun h W O => ⟨rfl, W, O⟩)
        · refine am_blk (pc' := 68) (Ls' := [.val (.ref 0), .val (.int x1), .val (.int x2), .val (.int x3), .val (.int ((1 : Int32) <<< (x2 &&& 31)))]) (St' := [.int (256 : Int32), .int (gi σ 0 16)]) (σ' := si (si σ 9 (nx x1) ((gi σ 9 (nx x1)) ||| ((1 : Int32) <<< (x2 &&& 31)))) 0 17 ((gi σ 0 17) + (1 : Int32))) [.aload_n 0, .getfield 127, .sipush 256] (by decide +kernel) hc hT hF wi (by exact rfl) ?_
          refine am_icmp_ge (o := 23) (pc1 := 91) (by decide +kernel) hc (fun hq => ?_) (fun hq => ?_)
          · refine am_blk (pc' := 80) (Ls' := [.val (.ref 0), .val (.int x1), .val (.int x2), .val (.int x3), .val (.int ((1 : Int32) <<< (x2 &&& 31)))]) (St' := [.int x3, .int (gi σ 0 16), .ref 10]) (σ' := si (si σ 9 (nx x1) ((gi σ 9 (nx x1)) ||| ((1 : Int32) <<< (x2 &&& 31)))) 0 17 ((gi σ 0 17) + (1 : Int32))) [.aload_n 0, .getfield 38, .aload_n 0, .getfield 127, .iload_n 3] (by decide +kernel) hc hT hF wi (by exact rfl) ?_
            refine am_iastore (y := x3) rfl (by decide +kernel) hc rfl (fun hb1 => ?_)
            refine am_blk (pc' := 91) (Ls' := [.val (.ref 0), .val (.int x1), .val (.int x2), .val (.int x3), .val (.int ((1 : Int32) <<< (x2 &&& 31)))]) (St' := []) (σ' := si (si (si (si σ 9 (nx x1) ((gi σ 9 (nx x1)) ||| ((1 : Int32) <<< (x2 &&& 31)))) 0 17 ((gi σ 0 17) + (1 : Int32))) 10 (nx (gi σ 0 16)) x3) 0 16 ((gi σ 0 16) + (1 : Int32))) [.aload_n 0, .aload_n 0, .getfield 127, .iconst 1, .iadd, .putfield 127] (by decide +kernel) hc hT hF wi (by exact rfl) ?_
            exact am_retV (by decide +kernel) hc (by decide) (by decide) (fun h W O => ⟨rfl, W, O⟩)
          · exact am_retV (by decide +kernel) hc (by decide) (by decide) (fun h W O => ⟨rfl, W, O⟩)
      · exact am_retV (by decide +kernel) hc (by decide) (by decide) (fun h W O => ⟨rfl, W, O⟩)
    · exact am_retV (by decide +kernel) hc (by decide) (by decide) (fun h W O => ⟨rfl, W, O⟩)
abbrev rm_c_scanWord : Room := { frames := 2, cells := 0, slots := 0, locals := 30 }
def c_scanWord (x1 : Int32) (σ : Sg) : Option Sg :=
  (c_pageOf x1 σ).bind fun r1 => if r1.1 < 0 then (some r1.2) else ((c_findStart x1 (si r1.2 0 18 ((gi r1.2 0 18) ||| ((1 : Int32) <<< (r1.1 &&& 31))))).bind fun r2 => if r2.1 = 0 then (some r2.2) else ((c_slotOf x1 r1.1 r2.2).bind fun r3 => (c_markObject r1.1 r3.1 r2.1 r3.2).bind fun r4 => some r4))
set_option maxRecDepth 65536 in
set_option maxHeartbeats 4000000 in
theorem ok_c_scanWord (hw : WH a0 Z) (x1 : Int32) (σ : Sg) : ∀ x, c_scanWord x1 σ = some x → Con l Z "ConservativeBiY" fsC (⟨"ConservativeBiY", "scanWord", "(I)V"⟩ : MethodName) prog_1_method_29_code 5 none rm_c_scanWord wC [.ref 0, .int x1] σ (fV x).1 (fV x).2 := by
  refine am_con pnC ?_
  intro p e s m below meth c A n0 h0 hc
  have hT := tabC hw "scanWord"
  have hF := fsokC hw
  have wi := wiC hw
  unfold c_scanWord
  refine am_blk (pc' := 2) (Ls' := [.val (.ref 0), .val (.int x1), .unset, .unset, .unset]) (St' := [.int x1, .ref 0]) (σ' := σ) [.aload_n 0, .iload_n 1] (by decide +kernel) hc hT hF wi (by exact rfl) ?_
  refine am_callP_I (W0 := 0) (argsL := [.int x1]) (rest := []) rfl (lk_C_102 hw) rfl wi (by decide +kernel) hc (SubW.refl _) rfl (by show arity "(I)I" 1 = true; decide +kernel) (ok_c_pageOf hw x1 _) rfl ⟨by decide, by decide, Nat.le_of_eq rfl, rfl, rfl, by decide, by decide⟩ (fun r1 hr => ?_)
  refine am_blk (pc' := 7) (Ls' := [.val (.ref 0), .val (.int x1), .val (.int r1.1), .unset, .unset]) (St' := [.int r1.1]) (σ' := r1.2) [.istore_n 2, .iload_n 2] (by decide +kernel) hc hT hF wi (by exact rfl) ?_
  refine am_if_ge (o := 4) (pc1 := 11) (by decide +kernel) hc (fun hq => ?_) (fun hq => ?_)
  · exact am_retV (by decide +kernel) hc (by decide) (by decide) (fun h W O => ⟨rfl, W, O⟩)
  · refine am_blk (pc' := 25) (Ls' := [.val (.ref 0), .val (.int x1), .val (.int r1.1), .unset, .unset]) (St' := [.int x1, .ref 0]) (σ' := si r1.2 0 18 ((gi r1.2 0 18) ||| ((1 : Int32) <<< (r1.1 &&& 31)))) [.aload_n 0, .aload_n 0, .getfield 130, .iconst 1, .iload_n 2, .ishl, .ior, .putfield 130, .aload_n 0, .iload_n 1] (by decide +kernel) hc hT hF wi (by exact rfl) ?_
    refine am_callP_I (W0 := 0) (argsL := [.int x1]) (rest := []) rfl (lk_C_99 hw) rfl wi (by decide +kernel) hc (SubW.refl _) rfl (by show arity "(I)I" 1 = true; decide +kernel) (ok_c_findStart hw x1 _) rfl ⟨by decide, by decide, Nat.le_of_eq rfl, rfl, rfl, by decide, by decide⟩ (fun r2 hr => ?_)
    refine am_blk (pc' := 30) (Ls' := [.val (.ref 0), .val (.int x1), .val (.int r1.1), .val (.int r2.1), .unset]) (St' := [.int r2.1]) (σ' := r2.2) [.istore_n 3, .iload_n 3] (by decide +kernel) hc hT hF wi (by exact rfl) ?_
    refine am_if_ne (o := 4) (pc1 := 34) (by decide +kernel) hc (fun hq => ?_) (fun hq => ?_)
    · exact am_retV (by decide +kernel) hc (by decide) (by decide) (fun h W O => ⟨rfl, W, O⟩)
    · refine am_blk (pc' := 37) (Ls' := [.val (.ref 0), .val (.int x1), .val (.int r1.1), .val (.int r2.1), .unset]) (St' := [.int r1.1, .int x1, .ref 0]) (σ' := r2.2) [.aload_n 0, .iload_n 1, .iload_n 2] (by decide +kernel) hc hT hF wi (by exact rfl) ?_
      refine am_callP_I (W0 := 0) (argsL := [.int x1, .int r1.1]) (rest := []) rfl (lk_C_105 hw) rfl wi (by decide +kernel) hc (SubW.refl _) rfl (by show arity "(II)I" 2 = true; decide +kernel) (ok_c_slotOf hw x1 r1.1 _) rfl ⟨by decide, by decide, Nat.le_of_eq rfl, rfl, rfl, by decide, by decide⟩ (fun r3 hr => ?_)
      refine am_blk (pc' := 47) (Ls' := [.val (.ref 0), .val (.int x1), .val (.int r1.1), .val (.int r2.1), .val (.int r3.1)]) (St' := [.int r2.1, .int r3.1, .int r1.1, .ref 0]) (σ' := r3.2) [.istore 4, .aload_n 0, .iload_n 2, .iload 4, .iload_n 3] (by decide +kernel) hc hT hF wi (by exact rfl) ?_
      refine am_callP_V (W0 := 0) (argsL := [.int r1.1, .int r3.1, .int r2.1]) (rest := []) rfl (lk_C_139 hw) rfl wi (by decide +kernel) hc (SubW.refl _) rfl (by show arity "(III)V" 3 = true; decide +kernel) (ok_c_markObject hw r1.1 r3.1 r2.1 _) rfl ⟨by decide, by decide, Nat.le_of_eq rfl, rfl, rfl, by decide, by decide⟩ (fun r4 hr => ?_)
      exact am_retV (by decide +kernel) hc (by decide) (by decide) (fun h W O => ⟨rfl, W, O⟩)
abbrev rm_c_markRoots : Room := { frames := 3, cells := 0, slots := 0, locals := 46 }
def c_markRoots_2 : Nat → Int32 → Sg → Option Sg
  | 0, _, _ => none
  | fuel + 1, x1, σ =>
    if x1 < (gi σ 0 12) then (if x1 < (32 : Int32) then (if inb x1 32 = true then ((c_scanWord (gi σ 1 (nx x1)) σ).bind fun r1 => c_markRoots_2 fuel (x1 + (1 : Int32)) r1) else none) else (some σ)) else (some σ)
set_option maxRecDepth 65536 in
set_option maxHeartbeats 4000000 in
theorem okc_c_markRoots_2 (hw : WH a0 Z) (hc : Cx p s m meth c Z "ConservativeBiY" prog_1_method_26_code 2 none "markRoots") : ∀ (fuel : Nat) (x1 : Int32) (σ : Sg), OkR p l e rm_c_markRoots s m args below meth c Z "ConservativeBiY" fsC n0 h0 (FM Z "ConservativeBiY" fsC A wC h0 fV) A wC 0 0 2 [.val (.ref 0), .val (.int x1)] [] σ (c_markRoots_2 fuel x1 σ) := by
  have hT := tabC hw "markRoots"
  have hF := fsokC hw
  have wi := wiC hw
  intro fuel
  induction fuel with
  | zero => intro x1 σ; exact am_none rfl
  | succ fuel ih =>
    intro x1 σ
    rw [c_markRoots_2]
    refine am_blk (pc' := 7) (Ls' := [.val (.ref 0), .val (.int x1)]) (St' := [.int (gi σ 0 12), .int x1]) (σ' := σ) [.iload_n 1, .aload_n 0, .getfield 48] (by decide +kernel) hc hT hF wi (by exact rfl) ?_
    refine am_icmp_ge (o := 25) (pc1 := 32) (by decide +kernel) hc (fun hq => ?_) (fun hq => ?_)
    · refine am_blk (pc' := 13) (Ls' := [.val (.ref 0), .val (.int x1)]) (St' := [.int (32 : Int32), .int x1]) (σ' := σ) [.iload_n 1, .bipush 32] (by decide +kernel) hc hT hF wi (by exact rfl) ?_
      refine am_icmp_ge (o := 19) (pc1 := 32) (by decide +kernel) hc (fun hq => ?_) (fun hq => ?_)
      · refine am_blk (pc' := 22) (Ls' := [.val (.ref 0), .val (.int x1)]) (St' := [.int x1, .ref 1, .ref 0]) (σ' := σ) [.aload_n 0, .aload_n 0, .getfield 7, .iload_n 1] (by decide +kernel) hc hT hF wi (by exact rfl) ?_
        refine am_iaload (by decide +kernel) hc rfl (fun hb0 => ?_)
        refine am_callP_V (W0 := 0) (argsL := [.int (gi σ 1 (nx x1))]) (rest := []) rfl (lk_C_133 hw) rfl wi (by decide +kernel) hc (SubW.refl _) rfl (by show arity "(I)V" 1 = true; decide +kernel) (ok_c_scanWord hw (gi σ 1 (nx x1)) _) rfl ⟨by decide, by decide, Nat.le_of_eq rfl, rfl, rfl, by decide, by decide⟩ (fun r1 hr => ?_)
        refine am_blk (pc' := 2) (Ls' := [.val (.ref 0), .val (.int (x1 + (1 : Int32)))]) (St' := []) (σ' := r1) [.iinc 1 1, .goto (-27)] (by decide +kernel) hc hT hF wi (by exact rfl) ?_
        exact am_wk (Ls' := [.val (.ref 0), .val (.int (x1 + (1 : Int32)))]) (by simp [wkL]) (ih (x1 + (1 : Int32)) r1)
      · exact am_retV (by decide +kernel) hc (by decide) (by decide) (fun h W O => ⟨rfl, W, O⟩)
    · exact am_retV (by decide +kernel) hc (by decide) (by decide) (fun h W O => ⟨rfl, W, O⟩)
def c_markRoots (σ : Sg) : Option Sg :=
  c_markRoots_2 400 (0 : Int32) σ
set_option maxRecDepth 65536 in
set_option maxHeartbeats 4000000 in
theorem ok_c_markRoots (hw : WH a0 Z) (σ : Sg) : ∀ x, c_markRoots σ = some x → Con l Z "ConservativeBiY" fsC (⟨"ConservativeBiY", "markRoots", "()V"⟩ : MethodName) prog_1_method_26_code 2 none rm_c_markRoots wC [.ref 0] σ (fV x).1 (fV x).2 := by
  refine am_con pnC ?_
  intro p e s m below meth c A n0 h0 hc
  have hT := tabC hw "markRoots"
  have hF := fsokC hw
  have wi := wiC hw
  unfold c_markRoots
  refine am_blk (pc' := 2) (Ls' := [.val (.ref 0), .val (.int (0 : Int32))]) (St' := []) (σ' := σ) [.iconst 0, .istore_n 1] (by decide +kernel) hc hT hF wi (by exact rfl) ?_
  exact am_wk (Ls' := [.val (.ref 0), .val (.int (0 : Int32))]) (by simp [wkL]) (okc_c_markRoots_2 hw hc 400 (0 : Int32) σ)
abbrev rm_c_scanFields : Room := { frames := 3, cells := 0, slots := 0, locals := 46 }
def c_scanFields_72 (k28 : Int32 → Int32 → Int32 → Sg → Option Sg) (x3 : Int32) (x4 : Int32) (x5 : Int32) (σ : Sg) : Option Sg :=
  k28 x3 x4 (x5 + (1 : Int32)) σ
set_option maxRecDepth 65536 in
set_option maxHeartbeats 4000000 in
theorem okc_c_scanFields_72 (hw : WH a0 Z) (hc : Cx p s m meth c Z "ConservativeBiY" prog_1_method_28_code 7 none "scanFields") (k28 : Int32 → Int32 → Int32 → Sg → Option Sg) (hk28 : ∀ (x3 : Int32) (x4 : Int32) (x5 : Int32) (σ : Sg), OkR p l e rm_c_scanFields s m args below meth c Z "ConservativeBiY" fsC n0 h0 (FM Z "ConservativeBiY" fsC A wC h0 fV) A wC 0 0 28 [.val (.ref 0), .unset, .unset, .val (.int x3), .val (.int x4), .val (.int x5), .unset] [] σ (k28 x3 x4 x5 σ)) (x3 : Int32) (x4 : Int32) (x5 : Int32) (σ : Sg) : OkR p l e rm_c_scanFields s m args below meth c Z "ConservativeBiY" fsC n0 h0 (FM Z "ConservativeBiY" fsC A wC h0 fV) A wC 0 0 72 [.val (.ref 0), .unset, .unset, .val (.int x3), .val (.int x4), .val (.int x5), .unset] [] σ (c_scanFields_72 k28 x3 x4 x5 σ) := by
  have hT := tabC hw "scanFields"
  have hF := fsokC hw
  have wi := wiC hw
  unfold c_scanFields_72
  refine am_blk (pc' := 28) (Ls' := [.val (.ref 0), .unset, .unset, .val (.int x3), .val (.int x4), .val (.int (x5 + (1 : Int32))), .unset]) (St' := []) (σ' := σ) [.iinc 5 1, .goto (-47)] (by decide +kernel) hc hT hF wi (by exact rfl) ?_
  exact am_wk (Ls' := [.val (.ref 0), .unset, .unset, .val (.int x3), .val (.int x4), .val (.int (x5 + (1 : Int32))), .unset]) (by simp [wkL]) (hk28 x3 x4 (x5 + (1 : Int32)) σ)
def c_scanFields_28 : Nat → Int32 → Int32 → Int32 → Sg → Option Sg
  | 0, _, _, _, _ => none
  | fuel + 1, x3, x4, x5, σ =>
    if x5 < x3 then (if x5 < (16 : Int32) then (if (x4 + x5) < 0 then (c_scanFields_72 (c_scanFields_28 fuel) x3 x4 x5 σ) else (if (x4 + x5) < (256 : Int32) then (if inb (x4 + x5) 256 = true then ((c_scanWord (gi σ 2 (nx (x4 + x5))) σ).bind fun r1 => c_scanFields_72 (c_scanFields_28 fuel) x3 x4 x5 r1) else none) else (c_scanFields_72 (c_scanFields_28 fuel) x3 x4 x5 σ))) else (some σ)) else (some σ)
set_option maxRecDepth 65536 in
set_option maxHeartbeats 4000000 in
theorem okc_c_scanFields_28 (hw : WH a0 Z) (hc : Cx p s m meth c Z "ConservativeBiY" prog_1_method_28_code 7 none "scanFields") : ∀ (fuel : Nat) (x3 : Int32) (x4 : Int32) (x5 : Int32) (σ : Sg), OkR p l e rm_c_scanFields s m args below meth c Z "ConservativeBiY" fsC n0 h0 (FM Z "ConservativeBiY" fsC A wC h0 fV) A wC 0 0 28 [.val (.ref 0), .unset, .unset, .val (.int x3), .val (.int x4), .val (.int x5), .unset] [] σ (c_scanFields_28 fuel x3 x4 x5 σ) := by
  have hT := tabC hw "scanFields"
  have hF := fsokC hw
  have wi := wiC hw
  intro fuel
  induction fuel with
  | zero => intro x3 x4 x5 σ; exact am_none rfl
  | succ fuel ih =>
    intro x3 x4 x5 σ
    rw [c_scanFields_28]
    refine am_blk (pc' := 31) (Ls' := [.val (.ref 0), .unset, .unset, .val (.int x3), .val (.int x4), .val (.int x5), .unset]) (St' := [.int x3, .int x5]) (σ' := σ) [.iload 5, .iload_n 3] (by decide +kernel) hc hT hF wi (by exact rfl) ?_
    refine am_icmp_ge (o := 47) (pc1 := 78) (by decide +kernel) hc (fun hq => ?_) (fun hq => ?_)
    · refine am_blk (pc' := 38) (Ls' := [.val (.ref 0), .unset, .unset, .val (.int x3), .val (.int x4), .val (.int x5), .unset]) (St' := [.int (16 : Int32), .int x5]) (σ' := σ) [.iload 5, .bipush 16] (by decide +kernel) hc hT hF wi (by exact rfl) ?_
      refine am_icmp_ge (o := 40) (pc1 := 78) (by decide +kernel) hc (fun hq => ?_) (fun hq => ?_)
      · refine am_blk (pc' := 50) (Ls' := [.val (.ref 0), .unset, .unset, .val (.int x3), .val (.int x4), .val (.int x5), .val (.int (x4 + x5))]) (St' := [.int (x4 + x5)]) (σ' := σ) [.iload 4, .iload 5, .iadd, .istore 6, .iload 6] (by decide +kernel) hc hT hF wi (by exact rfl) ?_
        refine am_if_lt (o := 22) (pc1 := 72) (by decide +kernel) hc (fun hq => ?_) (fun hq => ?_)
        · exact am_wk (Ls' := [.val (.ref 0), .unset, .unset, .val (.int x3), .val (.int x4), .val (.int x5), .unset]) (by simp [wkL]) (okc_c_scanFields_72 hw hc _ ih x3 x4 x5 σ)
        · refine am_blk (pc' := 58) (Ls' := [.val (.ref 0), .unset, .unset, .val (.int x3), .val (.int x4), .val (.int x5), .val (.int (x4 + x5))]) (St' := [.int (256 : Int32), .int (x4 + x5)]) (σ' := σ) [.iload 6, .sipush 256] (by decide +kernel) hc hT hF wi (by exact rfl) ?_
          refine am_icmp_ge (o := 14) (pc1 := 72) (by decide +kernel) hc (fun hq => ?_) (fun hq => ?_)
          · refine am_blk (pc' := 68) (Ls' := [.val (.ref 0), .unset, .unset, .val (.int x3), .val (.int x4), .val (.int x5), .val (.int (x4 + x5))]) (St' := [.int (x4 + x5), .ref 2, .ref 0]) (σ' := σ) [.aload_n 0, .aload_n 0, .getfield 13, .iload 6] (by decide +kernel) hc hT hF wi (by exact rfl) ?_
            refine am_iaload (by decide +kernel) hc rfl (fun hb0 => ?_)
            refine am_callP_V (W0 := 0) (argsL := [.int (gi σ 2 (nx (x4 + x5)))]) (rest := []) rfl (lk_C_133 hw) rfl wi (by decide +kernel) hc (SubW.refl _) rfl (by show arity "(I)V" 1 = true; decide +kernel) (ok_c_scanWord hw (gi σ 2 (nx (x4 + x5))) _) rfl ⟨by decide, by decide, Nat.le_of_eq rfl, rfl, rfl, by decide, by decide⟩ (fun r1 hr => ?_)
            exact am_wk (Ls' := [.val (.ref 0), .unset, .unset, .val (.int x3), .val (.int x4), .val (.int x5), .unset]) (by simp [wkL]) (okc_c_scanFields_72 hw hc _ ih x3 x4 x5 r1)
          · exact am_wk (Ls' := [.val (.ref 0), .unset, .unset, .val (.int x3), .val (.int x4), .val (.int x5), .unset]) (by simp [wkL]) (okc_c_scanFields_72 hw hc _ ih x3 x4 x5 σ)
      · exact am_retV (by decide +kernel) hc (by decide) (by decide) (fun h W O => ⟨rfl, W, O⟩)
    · exact am_retV (by decide +kernel) hc (by decide) (by decide) (fun h W O => ⟨rfl, W, O⟩)
def c_scanFields (x1 : Int32) (σ : Sg) : Option Sg :=
  (c_pageOf x1 σ).bind fun r1 => if r1.1 < 0 then (some r1.2) else (if inb r1.1 16 = true then (c_scanFields_28 400 (gi r1.2 3 (nx r1.1)) (x1 - (4096 : Int32)) (0 : Int32) r1.2) else none)
set_option maxRecDepth 65536 in
set_option maxHeartbeats 4000000 in
theorem ok_c_scanFields (hw : WH a0 Z) (x1 : Int32) (σ : Sg) : ∀ x, c_scanFields x1 σ = some x → Con l Z "ConservativeBiY" fsC (⟨"ConservativeBiY", "scanFields", "(I)V"⟩ : MethodName) prog_1_method_28_code 7 none rm_c_scanFields wC [.ref 0, .int x1] σ (fV x).1 (fV x).2 := by
  refine am_con pnC ?_
  intro p e s m below meth c A n0 h0 hc
  have hT := tabC hw "scanFields"
  have hF := fsokC hw
  have wi := wiC hw
  unfold c_scanFields
  refine am_blk (pc' := 2) (Ls' := [.val (.ref 0), .val (.int x1), .unset, .unset, .unset, .unset, .unset]) (St' := [.int x1, .ref 0]) (σ' := σ) [.aload_n 0, .iload_n 1] (by decide +kernel) hc hT hF wi (by exact rfl) ?_
  refine am_callP_I (W0 := 0) (argsL := [.int x1]) (rest := []) rfl (lk_C_102 hw) rfl wi (by decide +kernel) hc (SubW.refl _) rfl (by show arity "(I)I" 1 = true; decide +kernel) (ok_c_pageOf hw x1 _) rfl ⟨by decide, by decide, Nat.le_of_eq rfl, rfl, rfl, by decide, by decide⟩ (fun r1 hr => ?_)
  refine am_blk (pc' := 7) (Ls' := [.val (.ref 0), .val (.int x1), .val (.int r1.1), .unset, .unset, .unset, .unset]) (St' := [.int r1.1]) (σ' := r1.2) [.istore_n 2, .iload_n 2] (by decide +kernel) hc hT hF wi (by exact rfl) ?_
  refine am_if_ge (o := 4) (pc1 := 11) (by decide +kernel) hc (fun hq => ?_) (fun hq => ?_)
  · exact am_retV (by decide +kernel) hc (by decide) (by decide) (fun h W O => ⟨rfl, W, O⟩)
  · refine am_blk (pc' := 16) (Ls' := [.val (.ref 0), .val (.int x1), .val (.int r1.1), .unset, .unset, .unset, .unset]) (St' := [.int r1.1, .ref 3]) (σ' := r1.2) [.aload_n 0, .getfield 16, .iload_n 2] (by decide +kernel) hc hT hF wi (by exact rfl) ?_
    refine am_iaload (by decide +kernel) hc rfl (fun hb0 => ?_)
    refine am_blk (pc' := 28) (Ls' := [.val (.ref 0), .val (.int x1), .val (.int r1.1), .val (.int (gi r1.2 3 (nx r1.1))), .val (.int (x1 - (4096 : Int32))), .val (.int (0 : Int32)), .unset]) (St' := []) (σ' := r1.2) [.istore_n 3, .iload_n 1, .sipush 4096, .isub, .istore 4, .iconst 0, .istore 5] (by decide +kernel) hc hT hF wi (by exact rfl) ?_
    exact am_wk (Ls' := [.val (.ref 0), .unset, .unset, .val (.int (gi r1.2 3 (nx r1.1))), .val (.int (x1 - (4096 : Int32))), .val (.int (0 : Int32)), .unset]) (by simp [wkL]) (okc_c_scanFields_28 hw hc 400 (gi r1.2 3 (nx r1.1)) (x1 - (4096 : Int32)) (0 : Int32) r1.2)
abbrev rm_c_drainMarkStack : Room := { frames := 4, cells := 0, slots := 0, locals := 64 }
def c_drainMarkStack_2 : Nat → Int32 → Sg → Option Sg
  | 0, _, _ => none
  | fuel + 1, x1, σ =>
    if (256 : Int32) < x1 then (some σ) else (if 0 < (gi σ 0 16) then (if inb ((gi σ 0 16) - (1 : Int32)) 256 = true then ((c_scanFields (gi σ 10 (nx ((gi σ 0 16) - (1 : Int32)))) (si σ 0 16 ((gi σ 0 16) - (1 : Int32)))).bind fun r1 => c_drainMarkStack_2 fuel (x1 + (1 : Int32)) r1) else none) else (some σ))
set_option maxRecDepth 65536 in
set_option maxHeartbeats 4000000 in
theorem okc_c_drainMarkStack_2 (hw : WH a0 Z) (hc : Cx p s m meth c Z "ConservativeBiY" prog_1_method_27_code 3 none "drainMarkStack") : ∀ (fuel : Nat) (x1 : Int32) (σ : Sg), OkR p l e rm_c_drainMarkStack s m args below meth c Z "ConservativeBiY" fsC n0 h0 (FM Z "ConservativeBiY" fsC A wC h0 fV) A wC 0 0 2 [.val (.ref 0), .val (.int x1), .unset] [] σ (c_drainMarkStack_2 fuel x1 σ) := by
  have hT := tabC hw "drainMarkStack"
  have hF := fsokC hw
  have wi := wiC hw
  intro fuel
  induction fuel with
  | zero => intro x1 σ; exact am_none rfl
  | succ fuel ih =>
    intro x1 σ
    rw [c_drainMarkStack_2]
    refine am_blk (pc' := 6) (Ls' := [.val (.ref 0), .val (.int x1), .unset]) (St' := [.int (256 : Int32), .int x1]) (σ' := σ) [.iload_n 1, .sipush 256] (by decide +kernel) hc hT hF wi (by exact rfl) ?_
    refine am_icmp_gt (o := 41) (pc1 := 47) (by decide +kernel) hc (fun hq => ?_) (fun hq => ?_)
    · exact am_retV (by decide +kernel) hc (by decide) (by decide) (fun h W O => ⟨rfl, W, O⟩)
    · refine am_blk (pc' := 13) (Ls' := [.val (.ref 0), .val (.int x1), .unset]) (St' := [.int (gi σ 0 16)]) (σ' := σ) [.aload_n 0, .getfield 127] (by decide +kernel) hc hT hF wi (by exact rfl) ?_
      refine am_if_le (o := 34) (pc1 := 47) (by decide +kernel) hc (fun hq => ?_) (fun hq => ?_)
      · refine am_blk (pc' := 34) (Ls' := [.val (.ref 0), .val (.int x1), .unset]) (St' := [.int ((gi σ 0 16) - (1 : Int32)), .ref 10]) (σ' := si σ 0 16 ((gi σ 0 16) - (1 : Int32))) [.aload_n 0, .aload_n 0, .getfield 127, .iconst 1, .isub, .putfield 127, .aload_n 0, .getfield 38, .aload_n 0, .getfield 127] (by decide +kernel) hc hT hF wi (by exact rfl) ?_
        refine am_iaload (by decide +kernel) hc rfl (fun hb0 => ?_)
        refine am_blk (pc' := 38) (Ls' := [.val (.ref 0), .val (.int x1), .val (.int (gi σ 10 (nx ((gi σ 0 16) - (1 : Int32)))))]) (St' := [.int (gi σ 10 (nx ((gi σ 0 16) - (1 : Int32)))), .ref 0]) (σ' := si σ 0 16 ((gi σ 0 16) - (1 : Int32))) [.istore_n 2, .aload_n 0, .iload_n 2] (by decide +kernel) hc hT hF wi (by exact rfl) ?_
        refine am_callP_V (W0 := 0) (argsL := [.int (gi σ 10 (nx ((gi σ 0 16) - (1 : Int32))))]) (rest := []) rfl (lk_C_136 hw) rfl wi (by decide +kernel) hc (SubW.refl _) rfl (by show arity "(I)V" 1 = true; decide +kernel) (ok_c_scanFields hw (gi σ 10 (nx ((gi σ 0 16) - (1 : Int32)))) _) rfl ⟨by decide, by decide, Nat.le_of_eq rfl, rfl, rfl, by decide, by decide⟩ (fun r1 hr => ?_)
        refine am_blk (pc' := 2) (Ls' := [.val (.ref 0), .val (.int (x1 + (1 : Int32))), .val (.int (gi σ 10 (nx ((gi σ 0 16) - (1 : Int32)))))]) (St' := []) (σ' := r1) [.iinc 1 1, .goto (-42)] (by decide +kernel) hc hT hF wi (by exact rfl) ?_
        exact am_wk (Ls' := [.val (.ref 0), .val (.int (x1 + (1 : Int32))), .unset]) (by simp [wkL]) (ih (x1 + (1 : Int32)) r1)
      · exact am_retV (by decide +kernel) hc (by decide) (by decide) (fun h W O => ⟨rfl, W, O⟩)
def c_drainMarkStack (σ : Sg) : Option Sg :=
  c_drainMarkStack_2 400 (0 : Int32) σ
set_option maxRecDepth 65536 in
set_option maxHeartbeats 4000000 in
theorem ok_c_drainMarkStack (hw : WH a0 Z) (σ : Sg) : ∀ x, c_drainMarkStack σ = some x → Con l Z "ConservativeBiY" fsC (⟨"ConservativeBiY", "drainMarkStack", "()V"⟩ : MethodName) prog_1_method_27_code 3 none rm_c_drainMarkStack wC [.ref 0] σ (fV x).1 (fV x).2 := by
  refine am_con pnC ?_
  intro p e s m below meth c A n0 h0 hc
  have hT := tabC hw "drainMarkStack"
  have hF := fsokC hw
  have wi := wiC hw
  unfold c_drainMarkStack
  refine am_blk (pc' := 2) (Ls' := [.val (.ref 0), .val (.int (0 : Int32)), .unset]) (St' := []) (σ' := σ) [.iconst 0, .istore_n 1] (by decide +kernel) hc hT hF wi (by exact rfl) ?_
  exact am_wk (Ls' := [.val (.ref 0), .val (.int (0 : Int32)), .unset]) (by simp [wkL]) (okc_c_drainMarkStack_2 hw hc 400 (0 : Int32) σ)
abbrev rm_c_bitCount : Room := { frames := 0, cells := 0, slots := 0, locals := 0 }
def c_bitCount_22 (k4 : Int32 → Int32 → Int32 → Sg → Option (Int32 × Sg)) (x1 : Int32) (x2 : Int32) (x3 : Int32) (σ : Sg) : Option (Int32 × Sg) :=
  k4 x1 x2 (x3 + (1 : Int32)) σ
set_option maxRecDepth 65536 in
set_option maxHeartbeats 4000000 in
theorem okc_c_bitCount_22 (hw : WH a0 Z) (hc : Cx p s m meth c Z "ConservativeBiY" prog_1_method_41_code 4 (some .int) "bitCount") (k4 : Int32 → Int32 → Int32 → Sg → Option (Int32 × Sg)) (hk4 : ∀ (x1 : Int32) (x2 : Int32) (x3 : Int32) (σ : Sg), OkR p l e rm_c_bitCount s m args below meth c Z "ConservativeBiY" fsC n0 h0 (FM Z "ConservativeBiY" fsC A wC h0 fI) A wC 0 0 4 [.unset, .val (.int x1), .val (.int x2), .val (.int x3)] [] σ (k4 x1 x2 x3 σ)) (x1 : Int32) (x2 : Int32) (x3 : Int32) (σ : Sg) : OkR p l e rm_c_bitCount s m args below meth c Z "ConservativeBiY" fsC n0 h0 (FM Z "ConservativeBiY" fsC A wC h0 fI) A wC 0 0 22 [.unset, .val (.int x1), .val (.int x2), .val (.int x3)] [] σ (c_bitCount_22 k4 x1 x2 x3 σ) := by
  have hT := tabC hw "bitCount"
  have hF := fsokC hw
  have wi := wiC hw
  unfold c_bitCount_22
  refine am_blk (pc' := 4) (Ls' := [.unset, .val (.int x1), .val (.int x2), .val (.int (x3 + (1 : Int32)))]) (St' := []) (σ' := σ) [.iinc 3 1, .goto (-21)] (by decide +kernel) hc hT hF wi (by exact rfl) ?_
  exact am_wk (Ls' := [.unset, .val (.int x1), .val (.int x2), .val (.int (x3 + (1 : Int32)))]) (by simp [wkL]) (hk4 x1 x2 (x3 + (1 : Int32)) σ)
def c_bitCount_4 : Nat → Int32 → Int32 → Int32 → Sg → Option (Int32 × Sg)
  | 0, _, _, _, _ => none
  | fuel + 1, x1, x2, x3, σ =>
    if x3 < (16 : Int32) then (if ((x1 >>> (x3 &&& 31)) &&& (1 : Int32)) = 0 then (c_bitCount_22 (c_bitCount_4 fuel) x1 x2 x3 σ) else (c_bitCount_22 (c_bitCount_4 fuel) x1 (x2 + (1 : Int32)) x3 σ)) else (some (x2, σ))
set_option maxRecDepth 65536 in
set_option maxHeartbeats 4000000 in
theorem okc_c_bitCount_4 (hw : WH a0 Z) (hc : Cx p s m meth c Z "ConservativeBiY" prog_1_method_41_code 4 (some .int) "bitCount") : ∀ (fuel : Nat) (x1 : Int32) (x2 : Int32) (x3 : Int32) (σ : Sg), OkR p l e rm_c_bitCount s m args below meth c Z "ConservativeBiY" fsC n0 h0 (FM Z "ConservativeBiY" fsC A wC h0 fI) A wC 0 0 4 [.unset, .val (.int x1), .val (.int x2), .val (.int x3)] [] σ (c_bitCount_4 fuel x1 x2 x3 σ) := by
  have hT := tabC hw "bitCount"
  have hF := fsokC hw
  have wi := wiC hw
  intro fuel
  induction fuel with
  | zero => intro x1 x2 x3 σ; exact am_none rfl
  | succ fuel ih =>
    intro x1 x2 x3 σ
    rw [c_bitCount_4]
    refine am_blk (pc' := 7) (Ls' := [.unset, .val (.int x1), .val (.int x2), .val (.int x3)]) (St' := [.int (16 : Int32), .int x3]) (σ' := σ) [.iload_n 3, .bipush 16] (by decide +kernel) hc hT hF wi (by exact rfl) ?_
    refine am_icmp_ge (o := 21) (pc1 := 28) (by decide +kernel) hc (fun hq => ?_) (fun hq => ?_)
    · refine am_blk (pc' := 15) (Ls' := [.unset, .val (.int x1), .val (.int x2), .val (.int x3)]) (St' := [.int ((x1 >>> (x3 &&& 31)) &&& (1 : Int32))]) (σ' := σ) [.iload_n 1, .iload_n 3, .ishr, .iconst 1, .iand] (by decide +kernel) hc hT hF wi (by exact rfl) ?_
      refine am_if_eq (o := 7) (pc1 := 22) (by decide +kernel) hc (fun hq => ?_) (fun hq => ?_)
      · exact am_wk (Ls' := [.unset, .val (.int x1), .val (.int x2), .val (.int x3)]) (by simp [wkL]) (okc_c_bitCount_22 hw hc _ ih x1 x2 x3 σ)
      · refine am_blk (pc' := 22) (Ls' := [.unset, .val (.int x1), .val (.int (x2 + (1 : Int32))), .val (.int x3)]) (St' := []) (σ' := σ) [.iload_n 2, .iconst 1, .iadd, .istore_n 2] (by decide +kernel) hc hT hF wi (by exact rfl) ?_
        exact am_wk (Ls' := [.unset, .val (.int x1), .val (.int (x2 + (1 : Int32))), .val (.int x3)]) (by simp [wkL]) (okc_c_bitCount_22 hw hc _ ih x1 (x2 + (1 : Int32)) x3 σ)
    · refine am_blk (pc' := 29) (Ls' := [.unset, .val (.int x1), .val (.int x2), .val (.int x3)]) (St' := [.int x2]) (σ' := σ) [.iload_n 2] (by decide +kernel) hc hT hF wi (by exact rfl) ?_
      exact am_retI (by decide +kernel) hc (by decide) (by decide) (fun h W O => ⟨rfl, W, O⟩)
def c_bitCount (x1 : Int32) (σ : Sg) : Option (Int32 × Sg) :=
  c_bitCount_4 400 x1 (0 : Int32) (0 : Int32) σ
set_option maxRecDepth 65536 in
set_option maxHeartbeats 4000000 in
theorem ok_c_bitCount (hw : WH a0 Z) (x1 : Int32) (σ : Sg) : ∀ x, c_bitCount x1 σ = some x → Con l Z "ConservativeBiY" fsC (⟨"ConservativeBiY", "bitCount", "(I)I"⟩ : MethodName) prog_1_method_41_code 4 (some .int) rm_c_bitCount wC [.ref 0, .int x1] σ (fI x).1 (fI x).2 := by
  refine am_con pnC ?_
  intro p e s m below meth c A n0 h0 hc
  have hT := tabC hw "bitCount"
  have hF := fsokC hw
  have wi := wiC hw
  unfold c_bitCount
  refine am_blk (pc' := 4) (Ls' := [.val (.ref 0), .val (.int x1), .val (.int (0 : Int32)), .val (.int (0 : Int32))]) (St' := []) (σ' := σ) [.iconst 0, .istore_n 2, .iconst 0, .istore_n 3] (by decide +kernel) hc hT hF wi (by exact rfl) ?_
  exact am_wk (Ls' := [.unset, .val (.int x1), .val (.int (0 : Int32)), .val (.int (0 : Int32))]) (by simp [wkL]) (okc_c_bitCount_4 hw hc 400 x1 (0 : Int32) (0 : Int32) σ)
abbrev rm_c_sweepPage : Room := { frames := 2, cells := 0, slots := 0, locals := 30 }
def c_sweepPage_78 (x1 : Int32) (s0 : Int32) (s1 : Int32) (σ : Sg) : Option Sg :=
  if inb s1 16 = true then ((c_refreshPage x1 (si σ 7 (nx s1) (s0 &&& 1))).bind fun r1 => some r1) else none
set_option maxRecDepth 65536 in
set_option maxHeartbeats 4000000 in
theorem okc_c_sweepPage_78 (hw : WH a0 Z) (hc : Cx p s m meth c Z "ConservativeBiY" prog_1_method_32_code 4 none "sweepPage") (x1 : Int32) (s0 : Int32) (s1 : Int32) (σ : Sg) : OkR p l e rm_c_sweepPage s m args below meth c Z "ConservativeBiY" fsC n0 h0 (FM Z "ConservativeBiY" fsC A wC h0 fV) A wC 0 0 78 [.val (.ref 0), .val (.int x1), .unset, .unset] [.int s0, .int s1, .ref 7] σ (c_sweepPage_78 x1 s0 s1 σ) := by
  have hT := tabC hw "sweepPage"
  have hF := fsokC hw
  have wi := wiC hw
  unfold c_sweepPage_78
  refine am_bastoreZ (y := (s0 &&& 1)) rfl (by decide +kernel) hc rfl (fun hb0 => ?_)
  refine am_blk (pc' := 81) (Ls' := [.val (.ref 0), .val (.int x1), .unset, .unset]) (St' := [.int x1, .ref 0]) (σ' := si σ 7 (nx s1) (s0 &&& 1)) [.aload_n 0, .iload_n 1] (by decide +kernel) hc hT hF wi (by exact rfl) ?_
  refine am_callP_V (W0 := 0) (argsL := [.int x1]) (rest := []) rfl (lk_C_95 hw) rfl wi (by decide +kernel) hc (SubW.refl _) rfl (by show arity "(I)V" 1 = true; decide +kernel) (ok_c_refreshPage hw x1 _) rfl ⟨by decide, by decide, Nat.le_of_eq rfl, rfl, rfl, by decide, by decide⟩ (fun r1 hr => ?_)
  exact am_retV (by decide +kernel) hc (by decide) (by decide) (fun h W O => ⟨rfl, W, O⟩)
def c_sweepPage_77 (x1 : Int32) (s0 : Int32) (σ : Sg) : Option Sg :=
  c_sweepPage_78 x1 (0 : Int32) s0 σ
set_option maxRecDepth 65536 in
set_option maxHeartbeats 4000000 in
theorem okc_c_sweepPage_77 (hw : WH a0 Z) (hc : Cx p s m meth c Z "ConservativeBiY" prog_1_method_32_code 4 none "sweepPage") (x1 : Int32) (s0 : Int32) (σ : Sg) : OkR p l e rm_c_sweepPage s m args below meth c Z "ConservativeBiY" fsC n0 h0 (FM Z "ConservativeBiY" fsC A wC h0 fV) A wC 0 0 77 [.val (.ref 0), .val (.int x1), .unset, .unset] [.int s0, .ref 7] σ (c_sweepPage_77 x1 s0 σ) := by
  have hT := tabC hw "sweepPage"
  have hF := fsokC hw
  have wi := wiC hw
  unfold c_sweepPage_77
  refine am_blk (pc' := 78) (Ls' := [.val (.ref 0), .val (.int x1), .unset, .unset]) (St' := [.int (0 : Int32), .int s0, .ref 7]) (σ' := σ) [.iconst 0] (by decide +kernel) hc hT hF wi (by exact rfl) ?_
  exact am_wk (Ls' := [.val (.ref 0), .val (.int x1), .unset, .unset]) (by simp [wkL]) (okc_c_sweepPage_78 hw hc x1 (0 : Int32) s0 σ)
def c_sweepPage_59 (x1 : Int32) (x2 : Int32) (s0 : Int32) (σ : Sg) : Option Sg :=
  if x2 = 0 then (if s0 = 0 then (c_sweepPage_77 x1 x1 σ) else (c_sweepPage_78 x1 (1 : Int32) x1 σ)) else (c_sweepPage_77 x1 x1 σ)
set_option maxRecDepth 65536 in
set_option maxHeartbeats 4000000 in
theorem okc_c_sweepPage_59 (hw : WH a0 Z) (hc : Cx p s m meth c Z "ConservativeBiY" prog_1_method_32_code 4 none "sweepPage") (x1 : Int32) (x2 : Int32) (s0 : Int32) (σ : Sg) : OkR p l e rm_c_sweepPage s m args below meth c Z "ConservativeBiY" fsC n0 h0 (FM Z "ConservativeBiY" fsC A wC h0 fV) A wC 0 0 59 [.val (.ref 0), .val (.int x1), .val (.int x2), .unset] [.int s0] σ (c_sweepPage_59 x1 x2 s0 σ) := by
  have hT := tabC hw "sweepPage"
  have hF := fsokC hw
  have wi := wiC hw
  unfold c_sweepPage_59
  refine am_blk (pc' := 66) (Ls' := [.val (.ref 0), .val (.int x1), .val (.int x2), .val (.int s0)]) (St' := [.int x2, .int x1, .ref 7]) (σ' := σ) [.istore_n 3, .aload_n 0, .getfield 28, .iload_n 1, .iload_n 2] (by decide +kernel) hc hT hF wi (by exact rfl) ?_
  refine am_if_ne (o := 11) (pc1 := 77) (by decide +kernel) hc (fun hq => ?_) (fun hq => ?_)
  · refine am_blk (pc' := 70) (Ls' := [.val (.ref 0), .val (.int x1), .val (.int x2), .val (.int s0)]) (St' := [.int s0, .int x1, .ref 7]) (σ' := σ) [.iload_n 3] (by decide +kernel) hc hT hF wi (by exact rfl) ?_
    refine am_if_eq (o := 7) (pc1 := 77) (by decide +kernel) hc (fun hq => ?_) (fun hq => ?_)
    · exact am_wk (Ls' := [.val (.ref 0), .val (.int x1), .unset, .unset]) (by simp [wkL]) (okc_c_sweepPage_77 hw hc x1 x1 σ)
    · refine am_blk (pc' := 78) (Ls' := [.val (.ref 0), .val (.int x1), .val (.int x2), .val (.int s0)]) (St' := [.int (1 : Int32), .int x1, .ref 7]) (σ' := σ) [.iconst 1, .goto 4] (by decide +kernel) hc hT hF wi (by exact rfl) ?_
      exact am_wk (Ls' := [.val (.ref 0), .val (.int x1), .unset, .unset]) (by simp [wkL]) (okc_c_sweepPage_78 hw hc x1 (1 : Int32) x1 σ)
  · exact am_wk (Ls' := [.val (.ref 0), .val (.int x1), .unset, .unset]) (by simp [wkL]) (okc_c_sweepPage_77 hw hc x1 x1 σ)
def c_sweepPage_43 (x1 : Int32) (x2 : Int32) (σ : Sg) : Option Sg :=
  if (((gi σ 0 18) >>> (x1 &&& 31)) &&& (1 : Int32)) = 0 then (c_sweepPage_59 x1 x2 (0 : Int32) σ) else (c_sweepPage_59 x1 x2 (1 : Int32) σ)
set_option maxRecDepth 65536 in
set_option maxHeartbeats 4000000 in
theorem okc_c_sweepPage_43 (hw : WH a0 Z) (hc : Cx p s m meth c Z "ConservativeBiY" prog_1_method_32_code 4 none "sweepPage") (x1 : Int32) (x2 : Int32) (σ : Sg) : OkR p l e rm_c_sweepPage s m args below meth c Z "ConservativeBiY" fsC n0 h0 (FM Z "ConservativeBiY" fsC A wC h0 fV) A wC 0 0 43 [.val (.ref 0), .val (.int x1), .val (.int x2), .unset] [] σ (c_sweepPage_43 x1 x2 σ) := by
  have hT := tabC hw "sweepPage"
  have hF := fsokC hw
  have wi := wiC hw
  unfold c_sweepPage_43
  refine am_blk (pc' := 51) (Ls' := [.val (.ref 0), .val (.int x1), .val (.int x2), .unset]) (St' := [.int (((gi σ 0 18) >>> (x1 &&& 31)) &&& (1 : Int32))]) (σ' := σ) [.aload_n 0, .getfield 130, .iload_n 1, .ishr, .iconst 1, .iand] (by decide +kernel) hc hT hF wi (by exact rfl) ?_
  refine am_if_eq (o := 7) (pc1 := 58) (by decide +kernel) hc (fun hq => ?_) (fun hq => ?_)
  · refine am_blk (pc' := 59) (Ls' := [.val (.ref 0), .val (.int x1), .val (.int x2), .unset]) (St' := [.int (0 : Int32)]) (σ' := σ) [.iconst 0] (by decide +kernel) hc hT hF wi (by exact rfl) ?_
    exact am_wk (Ls' := [.val (.ref 0), .val (.int x1), .val (.int x2), .unset]) (by simp [wkL]) (okc_c_sweepPage_59 hw hc x1 x2 (0 : Int32) σ)
  · refine am_blk (pc' := 59) (Ls' := [.val (.ref 0), .val (.int x1), .val (.int x2), .unset]) (St' := [.int (1 : Int32)]) (σ' := σ) [.iconst 1, .goto 4] (by decide +kernel) hc hT hF wi (by exact rfl) ?_
    exact am_wk (Ls' := [.val (.ref 0), .val (.int x1), .val (.int x2), .unset]) (by simp [wkL]) (okc_c_sweepPage_59 hw hc x1 x2 (1 : Int32) σ)
def c_sweepPage (x1 : Int32) (σ : Sg) : Option Sg :=
  if inb x1 16 = true then ((c_bitCount (gi σ 9 (nx x1)) (si σ 5 (nx x1) (gi σ 9 (nx x1)))).bind fun r1 => if (gi σ 9 (nx x1)) = 0 then (c_sweepPage_43 x1 (gi σ 9 (nx x1)) (si (si (si r1.2 6 (nx x1) r1.1) 3 (nx x1) (0 : Int32)) 4 (nx x1) (0 : Int32))) else (c_sweepPage_43 x1 (gi σ 9 (nx x1)) (si r1.2 6 (nx x1) r1.1))) else none
set_option maxRecDepth 65536 in
set_option maxHeartbeats 4000000 in
theorem ok_c_sweepPage (hw : WH a0 Z) (x1 : Int32) (σ : Sg) : ∀ x, c_sweepPage x1 σ = some x → Con l Z "ConservativeBiY" fsC (⟨"ConservativeBiY", "sweepPage", "(I)V"⟩ : MethodName) prog_1_method_32_code 4 none rm_c_sweepPage wC [.ref 0, .int x1] σ (fV x).1 (fV x).2 := by
  refine am_con pnC ?_
  intro p e s m below meth c A n0 h0 hc
  have hT := tabC hw "sweepPage"
  have hF := fsokC hw
  have wi := wiC hw
  unfold c_sweepPage
  refine am_blk (pc' := 5) (Ls' := [.val (.ref 0), .val (.int x1), .unset, .unset]) (St' := [.int x1, .ref 9]) (σ' := σ) [.aload_n 0, .getfield 35, .iload_n 1] (by decide +kernel) hc hT hF wi (by exact rfl) ?_
  refine am_iaload (by decide +kernel) hc rfl (fun hb0 => ?_)
  refine am_blk (pc' := 13) (Ls' := [.val (.ref 0), .val (.int x1), .val (.int (gi σ 9 (nx x1))), .unset]) (St' := [.int (gi σ 9 (nx x1)), .int x1, .ref 5]) (σ' := σ) [.istore_n 2, .aload_n 0, .getfield 22, .iload_n 1, .iload_n 2] (by decide +kernel) hc hT hF wi (by exact rfl) ?_
  refine am_iastore_k hb0 (y := (gi σ 9 (nx x1))) rfl (by decide +kernel) hc rfl ?_
  refine am_blk (pc' := 21) (Ls' := [.val (.ref 0), .val (.int x1), .val (.int (gi σ 9 (nx x1))), .unset]) (St' := [.int (gi σ 9 (nx x1)), .ref 0, .int x1, .ref 6]) (σ' := si σ 5 (nx x1) (gi σ 9 (nx x1))) [.aload_n 0, .getfield 25, .iload_n 1, .aload_n 0, .iload_n 2] (by decide +kernel) hc hT hF wi (by exact rfl) ?_
  refine am_callP_I (W0 := 2) (argsL := [.int (gi σ 9 (nx x1))]) (rest := [.int x1, .ref 6]) rfl (lk_C_146 hw) rfl wi (by decide +kernel) hc (SubW.refl _) rfl (by show arity "(I)I" 1 = true; decide +kernel) (ok_c_bitCount hw (gi σ 9 (nx x1)) _) rfl ⟨by decide, by decide, Nat.le_of_eq rfl, rfl, rfl, by decide, by decide⟩ (fun r1 hr => ?_)
  refine am_iastore_k hb0 (y := r1.1) rfl (by decide +kernel) hc rfl ?_
  refine am_blk (pc' := 26) (Ls' := [.val (.ref 0), .val (.int x1), .val (.int (gi σ 9 (nx x1))), .unset]) (St' := [.int (gi σ 9 (nx x1))]) (σ' := si r1.2 6 (nx x1) r1.1) [.iload_n 2] (by decide +kernel) hc hT hF wi (by exact rfl) ?_
  refine am_if_ne (o := 17) (pc1 := 43) (by decide +kernel) hc (fun hq => ?_) (fun hq => ?_)
  · refine am_blk (pc' := 35) (Ls' := [.val (.ref 0), .val (.int x1), .val (.int (gi σ 9 (nx x1))), .unset]) (St' := [.int (0 : Int32), .int x1, .ref 3]) (σ' := si r1.2 6 (nx x1) r1.1) [.aload_n 0, .getfield 16, .iload_n 1, .iconst 0] (by decide +kernel) hc hT hF wi (by exact rfl) ?_
    refine am_iastore_k hb0 (y := (0 : Int32)) rfl (by decide +kernel) hc rfl ?_
    refine am_blk (pc' := 42) (Ls' := [.val (.ref 0), .val (.int x1), .val (.int (gi σ 9 (nx x1))), .unset]) (St' := [.int (0 : Int32), .int x1, .ref 4]) (σ' := si (si r1.2 6 (nx x1) r1.1) 3 (nx x1) (0 : Int32)) [.aload_n 0, .getfield 19, .iload_n 1, .iconst 0] (by decide +kernel) hc hT hF wi (by exact rfl) ?_
    refine am_iastore_k hb0 (y := (0 : Int32)) rfl (by decide +kernel) hc rfl ?_
    exact am_wk (Ls' := [.val (.ref 0), .val (.int x1), .val (.int (gi σ 9 (nx x1))), .unset]) (by simp [wkL]) (okc_c_sweepPage_43 hw hc x1 (gi σ 9 (nx x1)) (si (si (si r1.2 6 (nx x1) r1.1) 3 (nx x1) (0 : Int32)) 4 (nx x1) (0 : Int32)))
  · exact am_wk (Ls' := [.val (.ref 0), .val (.int x1), .val (.int (gi σ 9 (nx x1))), .unset]) (by simp [wkL]) (okc_c_sweepPage_43 hw hc x1 (gi σ 9 (nx x1)) (si r1.2 6 (nx x1) r1.1))
abbrev rm_c_sweepAll : Room := { frames := 3, cells := 0, slots := 0, locals := 45 }
def c_sweepAll_47 (k7 : Int32 → Sg → Option Sg) (x1 : Int32) (σ : Sg) : Option Sg :=
  k7 (x1 + (1 : Int32)) σ
set_option maxRecDepth 65536 in
set_option maxHeartbeats 4000000 in
theorem okc_c_sweepAll_47 (hw : WH a0 Z) (hc : Cx p s m meth c Z "ConservativeBiY" prog_1_method_31_code 2 none "sweepAll") (k7 : Int32 → Sg → Option Sg) (hk7 : ∀ (x1 : Int32) (σ : Sg), OkR p l e rm_c_sweepAll s m args below meth c Z "ConservativeBiY" fsC n0 h0 (FM Z "ConservativeBiY" fsC A wC h0 fV) A wC 0 0 7 [.val (.ref 0), .val (.int x1)] [] σ (k7 x1 σ)) (x1 : Int32) (σ : Sg) : OkR p l e rm_c_sweepAll s m args below meth c Z "ConservativeBiY" fsC n0 h0 (FM Z "ConservativeBiY" fsC A wC h0 fV) A wC 0 0 47 [.val (.ref 0), .val (.int x1)] [] σ (c_sweepAll_47 k7 x1 σ) := by
  have hT := tabC hw "sweepAll"
  have hF := fsokC hw
  have wi := wiC hw
  unfold c_sweepAll_47
  refine am_blk (pc' := 7) (Ls' := [.val (.ref 0), .val (.int (x1 + (1 : Int32)))]) (St' := []) (σ' := σ) [.iinc 1 1, .goto (-43)] (by decide +kernel) hc hT hF wi (by exact rfl) ?_
  exact am_wk (Ls' := [.val (.ref 0), .val (.int (x1 + (1 : Int32)))]) (by simp [wkL]) (hk7 (x1 + (1 : Int32)) σ)
def c_sweepAll_53 (σ : Sg) : Option Sg :=
  some (si σ 0 15 (gi σ 0 17))
set_option maxRecDepth 65536 in
set_option maxHeartbeats 4000000 in
theorem okc_c_sweepAll_53 (hw : WH a0 Z) (hc : Cx p s m meth c Z "ConservativeBiY" prog_1_method_31_code 2 none "sweepAll") (σ : Sg) : OkR p l e rm_c_sweepAll s m args below meth c Z "ConservativeBiY" fsC n0 h0 (FM Z "ConservativeBiY" fsC A wC h0 fV) A wC 0 0 53 [.val (.ref 0), .unset] [] σ (c_sweepAll_53 σ) := by
  have hT := tabC hw "sweepAll"
  have hF := fsokC hw
  have wi := wiC hw
  unfold c_sweepAll_53
  refine am_blk (pc' := 61) (Ls' := [.val (.ref 0), .unset]) (St' := []) (σ' := si σ 0 15 (gi σ 0 17)) [.aload_n 0, .aload_n 0, .getfield 121, .putfield 61] (by decide +kernel) hc hT hF wi (by exact rfl) ?_
  exact am_retV (by decide +kernel) hc (by decide) (by decide) (fun h W O => ⟨rfl, W, O⟩)
def c_sweepAll_7 : Nat → Int32 → Sg → Option Sg
  | 0, _, _ => none
  | fuel + 1, x1, σ =>
    if x1 < (gi σ 0 10) then (if x1 < (16 : Int32) then ((c_sweepPage x1 σ).bind fun r1 => if inb x1 16 = true then (if (gi r1 7 (nx x1)) = 0 then (c_sweepAll_47 (c_sweepAll_7 fuel) x1 r1) else (c_sweepAll_47 (c_sweepAll_7 fuel) x1 (si r1 0 14 ((gi r1 0 14) ||| ((1 : Int32) <<< (x1 &&& 31)))))) else none) else (c_sweepAll_53 σ)) else (c_sweepAll_53 σ)
set_option maxRecDepth 65536 in
set_option maxHeartbeats 4000000 in
theorem okc_c_sweepAll_7 (hw : WH a0 Z) (hc : Cx p s m meth c Z "ConservativeBiY" prog_1_method_31_code 2 none "sweepAll") : ∀ (fuel : Nat) (x1 : Int32) (σ : Sg), OkR p l e rm_c_sweepAll s m args below meth c Z "ConservativeBiY" fsC n0 h0 (FM Z "ConservativeBiY" fsC A wC h0 fV) A wC 0 0 7 [.val (.ref 0), .val (.int x1)] [] σ (c_sweepAll_7 fuel x1 σ) := by
  have hT := tabC hw "sweepAll"
  have hF := fsokC hw
  have wi := wiC hw
  intro fuel
  induction fuel with
  | zero => intro x1 σ; exact am_none rfl
  | succ fuel ih =>
    intro x1 σ
    rw [c_sweepAll_7]
    refine am_blk (pc' := 12) (Ls' := [.val (.ref 0), .val (.int x1)]) (St' := [.int (gi σ 0 10), .int x1]) (σ' := σ) [.iload_n 1, .aload_n 0, .getfield 41] (by decide +kernel) hc hT hF wi (by exact rfl) ?_
    refine am_icmp_ge (o := 41) (pc1 := 53) (by decide +kernel) hc (fun hq => ?_) (fun hq => ?_)
    · refine am_blk (pc' := 18) (Ls' := [.val (.ref 0), .val (.int x1)]) (St' := [.int (16 : Int32), .int x1]) (σ' := σ) [.iload_n 1, .bipush 16] (by decide +kernel) hc hT hF wi (by exact rfl) ?_
      refine am_icmp_ge (o := 35) (pc1 := 53) (by decide +kernel) hc (fun hq => ?_) (fun hq => ?_)
      · refine am_blk (pc' := 23) (Ls' := [.val (.ref 0), .val (.int x1)]) (St' := [.int x1, .ref 0]) (σ' := σ) [.aload_n 0, .iload_n 1] (by decide +kernel) hc hT hF wi (by exact rfl) ?_
        refine am_callP_V (W0 := 0) (argsL := [.int x1]) (rest := []) rfl (lk_C_143 hw) rfl wi (by decide +kernel) hc (SubW.refl _) rfl (by show arity "(I)V" 1 = true; decide +kernel) (ok_c_sweepPage hw x1 _) rfl ⟨by decide, by decide, Nat.le_of_eq rfl, rfl, rfl, by decide, by decide⟩ (fun r1 hr => ?_)
        refine am_blk (pc' := 31) (Ls' := [.val (.ref 0), .val (.int x1)]) (St' := [.int x1, .ref 7]) (σ' := r1) [.aload_n 0, .getfield 28, .iload_n 1] (by decide +kernel) hc hT hF wi (by exact rfl) ?_
        refine am_baloadZ (by decide +kernel) hc rfl (fun hb0 => ?_)
        refine am_if_eq (o := 15) (pc1 := 47) (by decide +kernel) hc (fun hq => ?_) (fun hq => ?_)
        · exact am_wk (Ls' := [.val (.ref 0), .val (.int x1)]) (by simp [wkL]) (okc_c_sweepAll_47 hw hc _ ih x1 r1)
        · refine am_blk (pc' := 47) (Ls' := [.val (.ref 0), .val (.int x1)]) (St' := []) (σ' := si r1 0 14 ((gi r1 0 14) ||| ((1 : Int32) <<< (x1 &&& 31)))) [.aload_n 0, .aload_n 0, .getfield 58, .iconst 1, .iload_n 1, .ishl, .ior, .putfield 58] (by decide +kernel) hc hT hF wi (by exact rfl) ?_
          exact am_wk (Ls' := [.val (.ref 0), .val (.int x1)]) (by simp [wkL]) (okc_c_sweepAll_47 hw hc _ ih x1 (si r1 0 14 ((gi r1 0 14) ||| ((1 : Int32) <<< (x1 &&& 31)))))
      · exact am_wk (Ls' := [.val (.ref 0), .unset]) (by simp [wkL]) (okc_c_sweepAll_53 hw hc σ)
    · exact am_wk (Ls' := [.val (.ref 0), .unset]) (by simp [wkL]) (okc_c_sweepAll_53 hw hc σ)
def c_sweepAll (σ : Sg) : Option Sg :=
  c_sweepAll_7 400 (0 : Int32) (si σ 0 14 (0 : Int32))
set_option maxRecDepth 65536 in
set_option maxHeartbeats 4000000 in
theorem ok_c_sweepAll (hw : WH a0 Z) (σ : Sg) : ∀ x, c_sweepAll σ = some x → Con l Z "ConservativeBiY" fsC (⟨"ConservativeBiY", "sweepAll", "()V"⟩ : MethodName) prog_1_method_31_code 2 none rm_c_sweepAll wC [.ref 0] σ (fV x).1 (fV x).2 := by
  refine am_con pnC ?_
  intro p e s m below meth c A n0 h0 hc
  have hT := tabC hw "sweepAll"
  have hF := fsokC hw
  have wi := wiC hw
  unfold c_sweepAll
  refine am_blk (pc' := 7) (Ls' := [.val (.ref 0), .val (.int (0 : Int32))]) (St' := []) (σ' := si σ 0 14 (0 : Int32)) [.aload_n 0, .iconst 0, .putfield 58, .iconst 0, .istore_n 1] (by decide +kernel) hc hT hF wi (by exact rfl) ?_
  exact am_wk (Ls' := [.val (.ref 0), .val (.int (0 : Int32))]) (by simp [wkL]) (okc_c_sweepAll_7 hw hc 400 (0 : Int32) (si σ 0 14 (0 : Int32)))
abbrev rm_c_collect : Room := { frames := 5, cells := 0, slots := 0, locals := 78 }
def c_collect (σ : Sg) : Option (Int32 × Sg) :=
  (c_beginMark σ).bind fun r1 => (c_markRoots r1).bind fun r2 => (c_drainMarkStack r2).bind fun r3 => (c_sweepAll r3).bind fun r4 => some ((gi r3 0 15) - (gi r3 0 17), r4)
set_option maxRecDepth 65536 in
set_option maxHeartbeats 4000000 in
theorem ok_c_collect (hw : WH a0 Z) (σ : Sg) : ∀ x, c_collect σ = some x → Con l Z "ConservativeBiY" fsC (⟨"ConservativeBiY", "collect", "()I"⟩ : MethodName) prog_1_method_24_code 2 (some .int) rm_c_collect wC [.ref 0] σ (fI x).1 (fI x).2 := by
  refine am_con pnC ?_
  intro p e s m below meth c A n0 h0 hc
  have hT := tabC hw "collect"
  have hF := fsokC hw
  have wi := wiC hw
  unfold c_collect
  refine am_blk (pc' := 1) (Ls' := [.val (.ref 0), .unset]) (St' := [.ref 0]) (σ' := σ) [.aload_n 0] (by decide +kernel) hc hT hF wi (by exact rfl) ?_
  refine am_callP_V (W0 := 0) (argsL := []) (rest := []) rfl (lk_C_112 hw) rfl wi (by decide +kernel) hc (SubW.refl _) rfl (by show arity "()V" 0 = true; decide +kernel) (ok_c_beginMark hw _) rfl ⟨by decide, by decide, Nat.le_of_eq rfl, rfl, rfl, by decide, by decide⟩ (fun r1 hr => ?_)
  refine am_blk (pc' := 5) (Ls' := [.val (.ref 0), .unset]) (St' := [.ref 0]) (σ' := r1) [.aload_n 0] (by decide +kernel) hc hT hF wi (by exact rfl) ?_
  refine am_callP_V (W0 := 0) (argsL := []) (rest := []) rfl (lk_C_115 hw) rfl wi (by decide +kernel) hc (SubW.refl _) rfl (by show arity "()V" 0 = true; decide +kernel) (ok_c_markRoots hw _) rfl ⟨by decide, by decide, Nat.le_of_eq rfl, rfl, rfl, by decide, by decide⟩ (fun r2 hr => ?_)
  refine am_blk (pc' := 9) (Ls' := [.val (.ref 0), .unset]) (St' := [.ref 0]) (σ' := r2) [.aload_n 0] (by decide +kernel) hc hT hF wi (by exact rfl) ?_
  refine am_callP_V (W0 := 0) (argsL := []) (rest := []) rfl (lk_C_118 hw) rfl wi (by decide +kernel) hc (SubW.refl _) rfl (by show arity "()V" 0 = true; decide +kernel) (ok_c_drainMarkStack hw _) rfl ⟨by decide, by decide, Nat.le_of_eq rfl, rfl, rfl, by decide, by decide⟩ (fun r3 hr => ?_)
  refine am_blk (pc' := 23) (Ls' := [.val (.ref 0), .val (.int ((gi r3 0 15) - (gi r3 0 17)))]) (St' := [.ref 0]) (σ' := r3) [.aload_n 0, .getfield 61, .aload_n 0, .getfield 121, .isub, .istore_n 1, .aload_n 0] (by decide +kernel) hc hT hF wi (by exact rfl) ?_
  refine am_callP_V (W0 := 0) (argsL := []) (rest := []) rfl (lk_C_124 hw) rfl wi (by decide +kernel) hc (SubW.refl _) rfl (by show arity "()V" 0 = true; decide +kernel) (ok_c_sweepAll hw _) rfl ⟨by decide, by decide, Nat.le_of_eq rfl, rfl, rfl, by decide, by decide⟩ (fun r4 hr => ?_)
  refine am_blk (pc' := 27) (Ls' := [.val (.ref 0), .val (.int ((gi r3 0 15) - (gi r3 0 17)))]) (St' := [.int ((gi r3 0 15) - (gi r3 0 17))]) (σ' := r4) [.iload_n 1] (by decide +kernel) hc hT hF wi (by exact rfl) ?_
  exact am_retI (by decide +kernel) hc (by decide) (by decide) (fun h W O => ⟨rfl, W, O⟩)
abbrev rm_q_law : Room := room_1
def q_law_267 (sn : Nat) (sf : Nat → Int32) (k16 : Int32 → Int32 → Sg → Option (Int32 × Sg)) (x2 : Int32) (x3 : Int32) (σ : Sg) : Option (Int32 × Sg) :=
  k16 x2 (x3 + (3 : Int32)) σ
set_option maxRecDepth 65536 in
set_option maxHeartbeats 4000000 in
theorem okc_q_law_267 (hw : WH a0 Z) (hc : Cx p s m meth c Z "ConservativeBiYL7" code 12 (some .boolean) "law") (hw0 : Rd w0 10) (hsc : w0 99 = some (.inr (.int, sn, some sf))) (hn : n0 ≤ h0.size) (k16 : Int32 → Int32 → Sg → Option (Int32 × Sg)) (hk16 : ∀ (x2 : Int32) (x3 : Int32) (σ : Sg), OkR p l e rm_q_law s m args below meth c Z "ConservativeBiY" fsC n0 h0 FL A (wF arrsC w0) 11 664 16 [.val (.ref 99), .val (.ref 0), .val (.int x2), .val (.int x3), .unset, .unset, .unset, .unset, .unset, .unset, .unset, .unset] [] σ (k16 x2 x3 σ)) (x2 : Int32) (x3 : Int32) (σ : Sg) : OkR p l e rm_q_law s m args below meth c Z "ConservativeBiY" fsC n0 h0 FL A (wF arrsC w0) 11 664 267 [.val (.ref 99), .val (.ref 0), .val (.int x2), .val (.int x3), .unset, .unset, .unset, .unset, .unset, .unset, .unset, .unset] [] σ (q_law_267 sn sf k16 x2 x3 σ) := by
  have hT := tabL hw "law"
  have hF := fsokC hw
  have wi := wiC hw
  unfold q_law_267
  refine am_blk (pc' := 16) (Ls' := [.val (.ref 99), .val (.ref 0), .val (.int x2), .val (.int (x3 + (3 : Int32))), .unset, .unset, .unset, .unset, .unset, .unset, .unset, .unset]) (St' := []) (σ' := σ) [.iinc 3 3, .goto (-254)] (by decide +kernel) hc hT hF wi (by exact rfl) ?_
  exact am_wk (Ls' := [.val (.ref 99), .val (.ref 0), .val (.int x2), .val (.int (x3 + (3 : Int32))), .unset, .unset, .unset, .unset, .unset, .unset, .unset, .unset]) (by simp [wkL]) (hk16 x2 (x3 + (3 : Int32)) σ)
def q_law_250 (sn : Nat) (sf : Nat → Int32) (k16 : Int32 → Int32 → Sg → Option (Int32 × Sg)) (x2 : Int32) (x3 : Int32) (y7 : Int64) (x9 : Int32) (σ : Sg) : Option (Int32 × Sg) :=
  if x9 = 0 then (q_law_267 sn sf k16 x2 x3 σ) else ((q_fp σ).bind fun r1 => if (XT.cmpL r1.1 y7) = 0 then (q_law_267 sn sf k16 x2 x3 r1.2) else (some ((0 : Int32), r1.2)))
set_option maxRecDepth 65536 in
set_option maxHeartbeats 4000000 in
theorem okc_q_law_250 (hw : WH a0 Z) (hc : Cx p s m meth c Z "ConservativeBiYL7" code 12 (some .boolean) "law") (hw0 : Rd w0 10) (hsc : w0 99 = some (.inr (.int, sn, some sf))) (hn : n0 ≤ h0.size) (k16 : Int32 → Int32 → Sg → Option (Int32 × Sg)) (hk16 : ∀ (x2 : Int32) (x3 : Int32) (σ : Sg), OkR p l e rm_q_law s m args below meth c Z "ConservativeBiY" fsC n0 h0 FL A (wF arrsC w0) 11 664 16 [.val (.ref 99), .val (.ref 0), .val (.int x2), .val (.int x3), .unset, .unset, .unset, .unset, .unset, .unset, .unset, .unset] [] σ (k16 x2 x3 σ)) (x2 : Int32) (x3 : Int32) (y7 : Int64) (x9 : Int32) (σ : Sg) : OkR p l e rm_q_law s m args below meth c Z "ConservativeBiY" fsC n0 h0 FL A (wF arrsC w0) 11 664 250 [.val (.ref 99), .val (.ref 0), .val (.int x2), .val (.int x3), .unset, .unset, .unset, .val (.long y7), .unset, .val (.int x9), .unset, .unset] [] σ (q_law_250 sn sf k16 x2 x3 y7 x9 σ) := by
  have hT := tabL hw "law"
  have hF := fsokC hw
  have wi := wiC hw
  unfold q_law_250
  refine am_blk (pc' := 252) (Ls' := [.val (.ref 99), .val (.ref 0), .val (.int x2), .val (.int x3), .unset, .unset, .unset, .val (.long y7), .unset, .val (.int x9), .unset, .unset]) (St' := [.int x9]) (σ' := σ) [.iload 9] (by decide +kernel) hc hT hF wi (by exact rfl) ?_
  refine am_if_eq (o := 15) (pc1 := 267) (by decide +kernel) hc (fun hq => ?_) (fun hq => ?_)
  · exact am_wk (Ls' := [.val (.ref 99), .val (.ref 0), .val (.int x2), .val (.int x3), .unset, .unset, .unset, .unset, .unset, .unset, .unset, .unset]) (by simp [wkL]) (okc_q_law_267 hw hc hw0 hsc hn k16 hk16 x2 x3 σ)
  · refine am_blk (pc' := 256) (Ls' := [.val (.ref 99), .val (.ref 0), .val (.int x2), .val (.int x3), .unset, .unset, .unset, .val (.long y7), .unset, .val (.int x9), .unset, .unset]) (St' := [.ref 0]) (σ' := σ) [.aload_n 1] (by decide +kernel) hc hT hF wi (by exact rfl) ?_
    refine am_callS_J (W0 := 0) (argsL := [.ref 0]) (rest := []) (lk_L_18 hw) (by decide +kernel) hc (subF hw0) rfl (by show arity "(LConservativeBiY;)J" 1 = true; decide +kernel) (ok_q_fp hw _) rfl ⟨by decide, by decide, Nat.le_of_eq rfl, rfl, rfl, by decide, by decide⟩ (fun r1 hr => ?_)
    refine am_blk (pc' := 262) (Ls' := [.val (.ref 99), .val (.ref 0), .val (.int x2), .val (.int x3), .unset, .unset, .unset, .val (.long y7), .unset, .val (.int x9), .unset, .unset]) (St' := [.int (XT.cmpL r1.1 y7)]) (σ' := r1.2) [.lload 7, .lcmp] (by decide +kernel) hc hT hF wi (by exact rfl) ?_
    refine am_if_eq (o := 5) (pc1 := 267) (by decide +kernel) hc (fun hq => ?_) (fun hq => ?_)
    · exact am_wk (Ls' := [.val (.ref 99), .val (.ref 0), .val (.int x2), .val (.int x3), .unset, .unset, .unset, .unset, .unset, .unset, .unset, .unset]) (by simp [wkL]) (okc_q_law_267 hw hc hw0 hsc hn k16 hk16 x2 x3 r1.2)
    · refine am_blk (pc' := 266) (Ls' := [.val (.ref 99), .val (.ref 0), .val (.int x2), .val (.int x3), .unset, .unset, .unset, .val (.long y7), .unset, .val (.int x9), .unset, .unset]) (St' := [.int (0 : Int32)]) (σ' := r1.2) [.iconst 0] (by decide +kernel) hc hT hF wi (by exact rfl) ?_
      exact am_retZ (by decide +kernel) hc (by decide) (by decide) (fun h W O => rfl)
def q_law_81 (sn : Nat) (sf : Nat → Int32) (k16 : Int32 → Int32 → Sg → Option (Int32 × Sg)) (x2 : Int32) (x3 : Int32) (y7 : Int64) (s0 : Int32) (σ : Sg) : Option (Int32 × Sg) :=
  q_law_250 sn sf k16 x2 x3 y7 s0 σ
set_option maxRecDepth 65536 in
set_option maxHeartbeats 4000000 in
theorem okc_q_law_81 (hw : WH a0 Z) (hc : Cx p s m meth c Z "ConservativeBiYL7" code 12 (some .boolean) "law") (hw0 : Rd w0 10) (hsc : w0 99 = some (.inr (.int, sn, some sf))) (hn : n0 ≤ h0.size) (k16 : Int32 → Int32 → Sg → Option (Int32 × Sg)) (hk16 : ∀ (x2 : Int32) (x3 : Int32) (σ : Sg), OkR p l e rm_q_law s m args below meth c Z "ConservativeBiY" fsC n0 h0 FL A (wF arrsC w0) 11 664 16 [.val (.ref 99), .val (.ref 0), .val (.int x2), .val (.int x3), .unset, .unset, .unset, .unset, .unset, .unset, .unset, .unset] [] σ (k16 x2 x3 σ)) (x2 : Int32) (x3 : Int32) (y7 : Int64) (s0 : Int32) (σ : Sg) : OkR p l e rm_q_law s m args below meth c Z "ConservativeBiY" fsC n0 h0 FL A (wF arrsC w0) 11 664 81 [.val (.ref 99), .val (.ref 0), .val (.int x2), .val (.int x3), .unset, .unset, .unset, .val (.long y7), .unset, .unset, .unset, .unset] [.int s0] σ (q_law_81 sn sf k16 x2 x3 y7 s0 σ) := by
  have hT := tabL hw "law"
  have hF := fsokC hw
  have wi := wiC hw
  unfold q_law_81
  refine am_blk (pc' := 250) (Ls' := [.val (.ref 99), .val (.ref 0), .val (.int x2), .val (.int x3), .unset, .unset, .unset, .val (.long y7), .unset, .val (.int s0), .unset, .unset]) (St' := []) (σ' := σ) [.istore 9, .goto 167] (by decide +kernel) hc hT hF wi (by exact rfl) ?_
  exact am_wk (Ls' := [.val (.ref 99), .val (.ref 0), .val (.int x2), .val (.int x3), .unset, .unset, .unset, .val (.long y7), .unset, .val (.int s0), .unset, .unset]) (by simp [wkL]) (okc_q_law_250 hw hc hw0 hsc hn k16 hk16 x2 x3 y7 s0 σ)
def q_law_128 (sn : Nat) (sf : Nat → Int32) (k16 : Int32 → Int32 → Sg → Option (Int32 × Sg)) (x2 : Int32) (x3 : Int32) (y7 : Int64) (x9 : Int32) (σ : Sg) : Option (Int32 × Sg) :=
  q_law_250 sn sf k16 x2 x3 y7 x9 σ
set_option maxRecDepth 65536 in
set_option maxHeartbeats 4000000 in
theorem okc_q_law_128 (hw : WH a0 Z) (hc : Cx p s m meth c Z "ConservativeBiYL7" code 12 (some .boolean) "law") (hw0 : Rd w0 10) (hsc : w0 99 = some (.inr (.int, sn, some sf))) (hn : n0 ≤ h0.size) (k16 : Int32 → Int32 → Sg → Option (Int32 × Sg)) (hk16 : ∀ (x2 : Int32) (x3 : Int32) (σ : Sg), OkR p l e rm_q_law s m args below meth c Z "ConservativeBiY" fsC n0 h0 FL A (wF arrsC w0) 11 664 16 [.val (.ref 99), .val (.ref 0), .val (.int x2), .val (.int x3), .unset, .unset, .unset, .unset, .unset, .unset, .unset, .unset] [] σ (k16 x2 x3 σ)) (x2 : Int32) (x3 : Int32) (y7 : Int64) (x9 : Int32) (σ : Sg) : OkR p l e rm_q_law s m args below meth c Z "ConservativeBiY" fsC n0 h0 FL A (wF arrsC w0) 11 664 128 [.val (.ref 99), .val (.ref 0), .val (.int x2), .val (.int x3), .unset, .unset, .unset, .val (.long y7), .unset, .val (.int x9), .unset, .unset] [] σ (q_law_128 sn sf k16 x2 x3 y7 x9 σ) := by
  have hT := tabL hw "law"
  have hF := fsokC hw
  have wi := wiC hw
  unfold q_law_128
  refine am_blk (pc' := 250) (Ls' := [.val (.ref 99), .val (.ref 0), .val (.int x2), .val (.int x3), .unset, .unset, .unset, .val (.long y7), .unset, .val (.int x9), .unset, .unset]) (St' := []) (σ' := σ) [.goto 122] (by decide +kernel) hc hT hF wi (by exact rfl) ?_
  exact am_wk (Ls' := [.val (.ref 99), .val (.ref 0), .val (.int x2), .val (.int x3), .unset, .unset, .unset, .val (.long y7), .unset, .val (.int x9), .unset, .unset]) (by simp [wkL]) (okc_q_law_250 hw hc hw0 hsc hn k16 hk16 x2 x3 y7 x9 σ)
def q_law_114 (sn : Nat) (sf : Nat → Int32) (k16 : Int32 → Int32 → Sg → Option (Int32 × Sg)) (x2 : Int32) (x3 : Int32) (y7 : Int64) (x11 : Int32) (s0 : Int32) (σ : Sg) : Option (Int32 × Sg) :=
  if s0 = 0 then (q_law_128 sn sf k16 x2 x3 y7 s0 σ) else (if x11 = 0 then (q_law_128 sn sf k16 x2 x3 y7 s0 σ) else (some ((0 : Int32), σ)))
set_option maxRecDepth 65536 in
set_option maxHeartbeats 4000000 in
theorem okc_q_law_114 (hw : WH a0 Z) (hc : Cx p s m meth c Z "ConservativeBiYL7" code 12 (some .boolean) "law") (hw0 : Rd w0 10) (hsc : w0 99 = some (.inr (.int, sn, some sf))) (hn : n0 ≤ h0.size) (k16 : Int32 → Int32 → Sg → Option (Int32 × Sg)) (hk16 : ∀ (x2 : Int32) (x3 : Int32) (σ : Sg), OkR p l e rm_q_law s m args below meth c Z "ConservativeBiY" fsC n0 h0 FL A (wF arrsC w0) 11 664 16 [.val (.ref 99), .val (.ref 0), .val (.int x2), .val (.int x3), .unset, .unset, .unset, .unset, .unset, .unset, .unset, .unset] [] σ (k16 x2 x3 σ)) (x2 : Int32) (x3 : Int32) (y7 : Int64) (x11 : Int32) (s0 : Int32) (σ : Sg) : OkR p l e rm_q_law s m args below meth c Z "ConservativeBiY" fsC n0 h0 FL A (wF arrsC w0) 11 664 114 [.val (.ref 99), .val (.ref 0), .val (.int x2), .val (.int x3), .unset, .unset, .unset, .val (.long y7), .unset, .unset, .unset, .val (.int x11)] [.int s0] σ (q_law_114 sn sf k16 x2 x3 y7 x11 s0 σ) := by
  have hT := tabL hw "law"
  have hF := fsokC hw
  have wi := wiC hw
  unfold q_law_114
  refine am_blk (pc' := 118) (Ls' := [.val (.ref 99), .val (.ref 0), .val (.int x2), .val (.int x3), .unset, .unset, .unset, .val (.long y7), .unset, .val (.int s0), .unset, .val (.int x11)]) (St' := [.int s0]) (σ' := σ) [.istore 9, .iload 9] (by decide +kernel) hc hT hF wi (by exact rfl) ?_
  refine am_if_eq (o := 10) (pc1 := 128) (by decide +kernel) hc (fun hq => ?_) (fun hq => ?_)
  · exact am_wk (Ls' := [.val (.ref 99), .val (.ref 0), .val (.int x2), .val (.int x3), .unset, .unset, .unset, .val (.long y7), .unset, .val (.int s0), .unset, .unset]) (by simp [wkL]) (okc_q_law_128 hw hc hw0 hsc hn k16 hk16 x2 x3 y7 s0 σ)
  · refine am_blk (pc' := 123) (Ls' := [.val (.ref 99), .val (.ref 0), .val (.int x2), .val (.int x3), .unset, .unset, .unset, .val (.long y7), .unset, .val (.int s0), .unset, .val (.int x11)]) (St' := [.int x11]) (σ' := σ) [.iload 11] (by decide +kernel) hc hT hF wi (by exact rfl) ?_
    refine am_if_eq (o := 5) (pc1 := 128) (by decide +kernel) hc (fun hq => ?_) (fun hq => ?_)
    · exact am_wk (Ls' := [.val (.ref 99), .val (.ref 0), .val (.int x2), .val (.int x3), .unset, .unset, .unset, .val (.long y7), .unset, .val (.int s0), .unset, .unset]) (by simp [wkL]) (okc_q_law_128 hw hc hw0 hsc hn k16 hk16 x2 x3 y7 s0 σ)
    · refine am_blk (pc' := 127) (Ls' := [.val (.ref 99), .val (.ref 0), .val (.int x2), .val (.int x3), .unset, .unset, .unset, .val (.long y7), .unset, .val (.int s0), .unset, .val (.int x11)]) (St' := [.int (0 : Int32)]) (σ' := σ) [.iconst 0] (by decide +kernel) hc hT hF wi (by exact rfl) ?_
      exact am_retZ (by decide +kernel) hc (by decide) (by decide) (fun h W O => rfl)
def q_law_163 (sn : Nat) (sf : Nat → Int32) (k16 : Int32 → Int32 → Sg → Option (Int32 × Sg)) (x2 : Int32) (x3 : Int32) (y7 : Int64) (s0 : Int32) (σ : Sg) : Option (Int32 × Sg) :=
  q_law_250 sn sf k16 x2 x3 y7 s0 σ
set_option maxRecDepth 65536 in
set_option maxHeartbeats 4000000 in
theorem okc_q_law_163 (hw : WH a0 Z) (hc : Cx p s m meth c Z "ConservativeBiYL7" code 12 (some .boolean) "law") (hw0 : Rd w0 10) (hsc : w0 99 = some (.inr (.int, sn, some sf))) (hn : n0 ≤ h0.size) (k16 : Int32 → Int32 → Sg → Option (Int32 × Sg)) (hk16 : ∀ (x2 : Int32) (x3 : Int32) (σ : Sg), OkR p l e rm_q_law s m args below meth c Z "ConservativeBiY" fsC n0 h0 FL A (wF arrsC w0) 11 664 16 [.val (.ref 99), .val (.ref 0), .val (.int x2), .val (.int x3), .unset, .unset, .unset, .unset, .unset, .unset, .unset, .unset] [] σ (k16 x2 x3 σ)) (x2 : Int32) (x3 : Int32) (y7 : Int64) (s0 : Int32) (σ : Sg) : OkR p l e rm_q_law s m args below meth c Z "ConservativeBiY" fsC n0 h0 FL A (wF arrsC w0) 11 664 163 [.val (.ref 99), .val (.ref 0), .val (.int x2), .val (.int x3), .unset, .unset, .unset, .val (.long y7), .unset, .unset, .unset, .unset] [.int s0] σ (q_law_163 sn sf k16 x2 x3 y7 s0 σ) := by
  have hT := tabL hw "law"
  have hF := fsokC hw
  have wi := wiC hw
  unfold q_law_163
  refine am_blk (pc' := 250) (Ls' := [.val (.ref 99), .val (.ref 0), .val (.int x2), .val (.int x3), .unset, .unset, .unset, .val (.long y7), .unset, .val (.int s0), .unset, .unset]) (St' := []) (σ' := σ) [.istore 9, .goto 85] (by decide +kernel) hc hT hF wi (by exact rfl) ?_
  exact am_wk (Ls' := [.val (.ref 99), .val (.ref 0), .val (.int x2), .val (.int x3), .unset, .unset, .unset, .val (.long y7), .unset, .val (.int s0), .unset, .unset]) (by simp [wkL]) (okc_q_law_250 hw hc hw0 hsc hn k16 hk16 x2 x3 y7 s0 σ)
def q_law_198 (sn : Nat) (sf : Nat → Int32) (k16 : Int32 → Int32 → Sg → Option (Int32 × Sg)) (x2 : Int32) (x3 : Int32) (y7 : Int64) (s0 : Int32) (σ : Sg) : Option (Int32 × Sg) :=
  q_law_250 sn sf k16 x2 x3 y7 s0 σ
set_option maxRecDepth 65536 in
set_option maxHeartbeats 4000000 in
theorem okc_q_law_198 (hw : WH a0 Z) (hc : Cx p s m meth c Z "ConservativeBiYL7" code 12 (some .boolean) "law") (hw0 : Rd w0 10) (hsc : w0 99 = some (.inr (.int, sn, some sf))) (hn : n0 ≤ h0.size) (k16 : Int32 → Int32 → Sg → Option (Int32 × Sg)) (hk16 : ∀ (x2 : Int32) (x3 : Int32) (σ : Sg), OkR p l e rm_q_law s m args below meth c Z "ConservativeBiY" fsC n0 h0 FL A (wF arrsC w0) 11 664 16 [.val (.ref 99), .val (.ref 0), .val (.int x2), .val (.int x3), .unset, .unset, .unset, .unset, .unset, .unset, .unset, .unset] [] σ (k16 x2 x3 σ)) (x2 : Int32) (x3 : Int32) (y7 : Int64) (s0 : Int32) (σ : Sg) : OkR p l e rm_q_law s m args below meth c Z "ConservativeBiY" fsC n0 h0 FL A (wF arrsC w0) 11 664 198 [.val (.ref 99), .val (.ref 0), .val (.int x2), .val (.int x3), .unset, .unset, .unset, .val (.long y7), .unset, .unset, .unset, .unset] [.int s0] σ (q_law_198 sn sf k16 x2 x3 y7 s0 σ) := by
  have hT := tabL hw "law"
  have hF := fsokC hw
  have wi := wiC hw
  unfold q_law_198
  refine am_blk (pc' := 250) (Ls' := [.val (.ref 99), .val (.ref 0), .val (.int x2), .val (.int x3), .unset, .unset, .unset, .val (.long y7), .unset, .val (.int s0), .unset, .unset]) (St' := []) (σ' := σ) [.istore 9, .goto 50] (by decide +kernel) hc hT hF wi (by exact rfl) ?_
  exact am_wk (Ls' := [.val (.ref 99), .val (.ref 0), .val (.int x2), .val (.int x3), .unset, .unset, .unset, .val (.long y7), .unset, .val (.int s0), .unset, .unset]) (by simp [wkL]) (okc_q_law_250 hw hc hw0 hsc hn k16 hk16 x2 x3 y7 s0 σ)
def q_law_240 (sn : Nat) (sf : Nat → Int32) (k16 : Int32 → Int32 → Sg → Option (Int32 × Sg)) (x2 : Int32) (x3 : Int32) (y7 : Int64) (s0 : Int32) (σ : Sg) : Option (Int32 × Sg) :=
  q_law_250 sn sf k16 x2 x3 y7 s0 σ
set_option maxRecDepth 65536 in
set_option maxHeartbeats 4000000 in
theorem okc_q_law_240 (hw : WH a0 Z) (hc : Cx p s m meth c Z "ConservativeBiYL7" code 12 (some .boolean) "law") (hw0 : Rd w0 10) (hsc : w0 99 = some (.inr (.int, sn, some sf))) (hn : n0 ≤ h0.size) (k16 : Int32 → Int32 → Sg → Option (Int32 × Sg)) (hk16 : ∀ (x2 : Int32) (x3 : Int32) (σ : Sg), OkR p l e rm_q_law s m args below meth c Z "ConservativeBiY" fsC n0 h0 FL A (wF arrsC w0) 11 664 16 [.val (.ref 99), .val (.ref 0), .val (.int x2), .val (.int x3), .unset, .unset, .unset, .unset, .unset, .unset, .unset, .unset] [] σ (k16 x2 x3 σ)) (x2 : Int32) (x3 : Int32) (y7 : Int64) (s0 : Int32) (σ : Sg) : OkR p l e rm_q_law s m args below meth c Z "ConservativeBiY" fsC n0 h0 FL A (wF arrsC w0) 11 664 240 [.val (.ref 99), .val (.ref 0), .val (.int x2), .val (.int x3), .unset, .unset, .unset, .val (.long y7), .unset, .unset, .unset, .unset] [.int s0] σ (q_law_240 sn sf k16 x2 x3 y7 s0 σ) := by
  have hT := tabL hw "law"
  have hF := fsokC hw
  have wi := wiC hw
  unfold q_law_240
  refine am_blk (pc' := 250) (Ls' := [.val (.ref 99), .val (.ref 0), .val (.int x2), .val (.int x3), .unset, .unset, .unset, .val (.long y7), .unset, .val (.int s0), .unset, .unset]) (St' := []) (σ' := σ) [.istore 9, .goto 8] (by decide +kernel) hc hT hF wi (by exact rfl) ?_
  exact am_wk (Ls' := [.val (.ref 99), .val (.ref 0), .val (.int x2), .val (.int x3), .unset, .unset, .unset, .val (.long y7), .unset, .val (.int s0), .unset, .unset]) (by simp [wkL]) (okc_q_law_250 hw hc hw0 hsc hn k16 hk16 x2 x3 y7 s0 σ)
def q_law_16 (sn : Nat) (sf : Nat → Int32) : Nat → Int32 → Int32 → Sg → Option (Int32 × Sg)
  | 0, _, _, _ => none
  | fuel + 1, x2, x3, σ =>
    if (x3 + (2 : Int32)) < sn.toInt32 then (if inb x3 sn = true then (if (6 : Int32) = 0 then none else (if inb (x3 + (1 : Int32)) sn = true then (if inb (x3 + (2 : Int32)) sn = true then ((q_word (sf (nx (x3 + (2 : Int32)))) σ).bind fun r1 => (q_fp r1.2).bind fun r2 => if (((sf (nx x3)) &&& (7 : Int32)) % (6 : Int32)) = 0 then ((c_pushRoot r1.1 r2.2).bind fun r3 => if r3.1 = (-1 : Int32) then (q_law_81 sn sf (q_law_16 sn sf fuel) x2 x3 r2.1 (1 : Int32) r3.2) else (q_law_81 sn sf (q_law_16 sn sf fuel) x2 x3 r2.1 (0 : Int32) r3.2)) else (if (((sf (nx x3)) &&& (7 : Int32)) % (6 : Int32)) = (1 : Int32) then ((c_rootDepth r2.2).bind fun r4 => (c_popRoot r4.2).bind fun r5 => if r4.1 = 0 then (q_law_114 sn sf (q_law_16 sn sf fuel) x2 x3 r2.1 r5.1 (1 : Int32) r5.2) else (q_law_114 sn sf (q_law_16 sn sf fuel) x2 x3 r2.1 r5.1 (0 : Int32) r5.2)) else (if (((sf (nx x3)) &&& (7 : Int32)) % (6 : Int32)) = (2 : Int32) then (if (6 : Int32) = 0 then none else ((c_setRoot (((sf (nx (x3 + (1 : Int32)))) &&& (15 : Int32)) % (6 : Int32)) r1.1 r2.2).bind fun r6 => if r6.1 = 0 then (q_law_163 sn sf (q_law_16 sn sf fuel) x2 x3 r2.1 (1 : Int32) r6.2) else (q_law_163 sn sf (q_law_16 sn sf fuel) x2 x3 r2.1 (0 : Int32) r6.2))) else (if (((sf (nx x3)) &&& (7 : Int32)) % (6 : Int32)) = (3 : Int32) then (if (18 : Int32) = 0 then none else ((c_alloc (((sf (nx (x3 + (1 : Int32)))) &&& (31 : Int32)) % (18 : Int32)) r2.2).bind fun r7 => if r7.1 = 0 then (q_law_198 sn sf (q_law_16 sn sf fuel) x2 x3 r2.1 (1 : Int32) r7.2) else (q_law_198 sn sf (q_law_16 sn sf fuel) x2 x3 r2.1 (0 : Int32) r7.2))) else (if (((sf (nx x3)) &&& (7 : Int32)) % (6 : Int32)) = (4 : Int32) then (if (80 : Int32) = 0 then none else ((c_store ((x2 - (8 : Int32)) + (((sf (nx (x3 + (1 : Int32)))) &&& (127 : Int32)) % (80 : Int32))) r1.1 r2.2).bind fun r8 => if r8.1 = 0 then (q_law_240 sn sf (q_law_16 sn sf fuel) x2 x3 r2.1 (1 : Int32) r8.2) else (q_law_240 sn sf (q_law_16 sn sf fuel) x2 x3 r2.1 (0 : Int32) r8.2))) else ((c_collect r2.2).bind fun r9 => q_law_250 sn sf (q_law_16 sn sf fuel) x2 x3 r2.1 (0 : Int32) r9.2)))))) else none) else none)) else none) else ((c_collect σ).bind fun r10 => (q_fp r10.2).bind fun r11 => (c_liveObjects r11.2).bind fun r12 => (c_collect r12.2).bind fun r13 => if r13.1 = 0 then ((c_liveObjects r13.2).bind fun r14 => if r14.1 = r12.1 then ((q_fp r14.2).bind fun r15 => if (XT.cmpL r15.1 r11.1) = 0 then (some ((1 : Int32), r15.2)) else (some ((0 : Int32), r15.2))) else (some ((0 : Int32), r14.2))) else (some ((0 : Int32), r13.2)))
set_option maxRecDepth 65536 in
set_option maxHeartbeats 4000000 in
theorem okc_q_law_16 (hw : WH a0 Z) (hc : Cx p s m meth c Z "ConservativeBiYL7" code 12 (some .boolean) "law") (hw0 : Rd w0 10) (hsc : w0 99 = some (.inr (.int, sn, some sf))) (hn : n0 ≤ h0.size) : ∀ (fuel : Nat) (x2 : Int32) (x3 : Int32) (σ : Sg), OkR p l e rm_q_law s m args below meth c Z "ConservativeBiY" fsC n0 h0 FL A (wF arrsC w0) 11 664 16 [.val (.ref 99), .val (.ref 0), .val (.int x2), .val (.int x3), .unset, .unset, .unset, .unset, .unset, .unset, .unset, .unset] [] σ (q_law_16 sn sf fuel x2 x3 σ) := by
  have hT := tabL hw "law"
  have hF := fsokC hw
  have wi := wiC hw
  intro fuel
  induction fuel with
  | zero => intro x2 x3 σ; exact am_none rfl
  | succ fuel ih =>
    intro x2 x3 σ
    rw [q_law_16]
    refine am_blk (pc' := 20) (Ls' := [.val (.ref 99), .val (.ref 0), .val (.int x2), .val (.int x3), .unset, .unset, .unset, .unset, .unset, .unset, .unset, .unset]) (St' := [.ref 99, .int (x3 + (2 : Int32))]) (σ' := σ) [.iload_n 3, .iconst 2, .iadd, .aload_n 0] (by decide +kernel) hc hT hF wi (by exact rfl) ?_
    refine am_alen (by decide +kernel) hc hsc ?_
    refine am_icmp_ge (o := 252) (pc1 := 273) (by decide +kernel) hc (fun hq => ?_) (fun hq => ?_)
    · refine am_blk (pc' := 26) (Ls' := [.val (.ref 99), .val (.ref 0), .val (.int x2), .val (.int x3), .unset, .unset, .unset, .unset, .unset, .unset, .unset, .unset]) (St' := [.int x3, .ref 99]) (σ' := σ) [.aload_n 0, .iload_n 3] (by decide +kernel) hc hT hF wi (by exact rfl) ?_
      refine am_ialoadC (by decide +kernel) hc hsc (fun hb0 => ?_)
      refine am_blk (pc' := 32) (Ls' := [.val (.ref 99), .val (.ref 0), .val (.int x2), .val (.int x3), .unset, .unset, .unset, .unset, .unset, .unset, .unset, .unset]) (St' := [.int (6 : Int32), .int ((sf (nx x3)) &&& (7 : Int32))]) (σ' := σ) [.bipush 7, .iand, .bipush 6] (by decide +kernel) hc hT hF wi (by exact rfl) ?_
      refine am_irem (by decide +kernel) hc (fun hy => ?_)
      refine am_blk (pc' := 39) (Ls' := [.val (.ref 99), .val (.ref 0), .val (.int x2), .val (.int x3), .val (.int (((sf (nx x3)) &&& (7 : Int32)) % (6 : Int32))), .unset, .unset, .unset, .unset, .unset, .unset, .unset]) (St' := [.int (x3 + (1 : Int32)), .ref 99]) (σ' := σ) [.istore 4, .aload_n 0, .iload_n 3, .iconst 1, .iadd] (by decide +kernel) hc hT hF wi (by exact rfl) ?_
      refine am_ialoadC (by decide +kernel) hc hsc (fun hb1 => ?_)
      refine am_blk (pc' := 46) (Ls' := [.val (.ref 99), .val (.ref 0), .val (.int x2), .val (.int x3), .val (.int (((sf (nx x3)) &&& (7 : Int32)) % (6 : Int32))), .val (.int (sf (nx (x3 + (1 : Int32))))), .unset, .unset, .unset, .unset, .unset, .unset]) (St' := [.int (x3 + (2 : Int32)), .ref 99]) (σ' := σ) [.istore 5, .aload_n 0, .iload_n 3, .iconst 2, .iadd] (by decide +kernel) hc hT hF wi (by exact rfl) ?_
      refine am_ialoadC (by decide +kernel) hc hsc (fun hb2 => ?_)
      refine am_callS_I (W0 := 0) (argsL := [.int (sf (nx (x3 + (2 : Int32))))]) (rest := []) (lk_L_12 hw) (by decide +kernel) hc (SubW.refl _) rfl (by show arity "(I)I" 1 = true; decide +kernel) (ok_q_word hw (sf (nx (x3 + (2 : Int32)))) _) rfl ⟨by decide, by decide, Nat.le_of_eq rfl, rfl, rfl, by decide, by decide⟩ (fun r1 hr => ?_)
      refine am_blk (pc' := 53) (Ls' := [.val (.ref 99), .val (.ref 0), .val (.int x2), .val (.int x3), .val (.int (((sf (nx x3)) &&& (7 : Int32)) % (6 : Int32))), .val (.int (sf (nx (x3 + (1 : Int32))))), .val (.int r1.1), .unset, .unset, .unset, .unset, .unset]) (St' := [.ref 0]) (σ' := r1.2) [.istore 6, .aload_n 1] (by decide +kernel) hc hT hF wi (by exact rfl) ?_
      refine am_callS_J (W0 := 0) (argsL := [.ref 0]) (rest := []) (lk_L_18 hw) (by decide +kernel) hc (subF hw0) rfl (by show arity "(LConservativeBiY;)J" 1 = true; decide +kernel) (ok_q_fp hw _) rfl ⟨by decide, by decide, Nat.le_of_eq rfl, rfl, rfl, by decide, by decide⟩ (fun r2 hr => ?_)
      refine am_blk (pc' := 63) (Ls' := [.val (.ref 99), .val (.ref 0), .val (.int x2), .val (.int x3), .val (.int (((sf (nx x3)) &&& (7 : Int32)) % (6 : Int32))), .val (.int (sf (nx (x3 + (1 : Int32))))), .val (.int r1.1), .val (.long r2.1), .second, .val (.int (0 : Int32)), .unset, .unset]) (St' := [.int (((sf (nx x3)) &&& (7 : Int32)) % (6 : Int32))]) (σ' := r2.2) [.lstore 7, .iconst 0, .istore 9, .iload 4] (by decide +kernel) hc hT hF wi (by exact rfl) ?_
      refine am_if_ne (o := 23) (pc1 := 86) (by decide +kernel) hc (fun hq => ?_) (fun hq => ?_)
      · refine am_blk (pc' := 69) (Ls' := [.val (.ref 99), .val (.ref 0), .val (.int x2), .val (.int x3), .val (.int (((sf (nx x3)) &&& (7 : Int32)) % (6 : Int32))), .val (.int (sf (nx (x3 + (1 : Int32))))), .val (.int r1.1), .val (.long r2.1), .second, .val (.int (0 : Int32)), .unset, .unset]) (St' := [.int r1.1, .ref 0]) (σ' := r2.2) [.aload_n 1, .iload 6] (by decide +kernel) hc hT hF wi (by exact rfl) ?_
        refine am_callV_I (W0 := 0) (argsL := [.int r1.1]) (rest := []) rfl (lk_L_22 hw) rfl (by decide +kernel) hc (subF hw0) rfl (by show arity "(I)I" 1 = true; decide +kernel) (ok_c_pushRoot hw r1.1 _) rfl ⟨by decide, by decide, Nat.le_of_eq rfl, rfl, rfl, by decide, by decide⟩ (fun r3 hr => ?_)
        refine am_blk (pc' := 73) (Ls' := [.val (.ref 99), .val (.ref 0), .val (.int x2), .val (.int x3), .val (.int (((sf (nx x3)) &&& (7 : Int32)) % (6 : Int32))), .val (.int (sf (nx (x3 + (1 : Int32))))), .val (.int r1.1), .val (.long r2.1), .second, .val (.int (0 : Int32)), .unset, .unset]) (St' := [.int (-1 : Int32), .int r3.1]) (σ' := r3.2) [.iconst (-1)] (by decide +kernel) hc hT hF wi (by exact rfl) ?_
        refine am_icmp_ne (o := 7) (pc1 := 80) (by decide +kernel) hc (fun hq => ?_) (fun hq => ?_)
        · refine am_blk (pc' := 81) (Ls' := [.val (.ref 99), .val (.ref 0), .val (.int x2), .val (.int x3), .val (.int (((sf (nx x3)) &&& (7 : Int32)) % (6 : Int32))), .val (.int (sf (nx (x3 + (1 : Int32))))), .val (.int r1.1), .val (.long r2.1), .second, .val (.int (0 : Int32)), .unset, .unset]) (St' := [.int (1 : Int32)]) (σ' := r3.2) [.iconst 1, .goto 4] (by decide +kernel) hc hT hF wi (by exact rfl) ?_
          exact am_wk (Ls' := [.val (.ref 99), .val (.ref 0), .val (.int x2), .val (.int x3), .unset, .unset, .unset, .val (.long r2.1), .unset, .unset, .unset, .unset]) (by simp [wkL]) (okc_q_law_81 hw hc hw0 hsc hn _ ih x2 x3 r2.1 (1 : Int32) r3.2)
        · refine am_blk (pc' := 81) (Ls' := [.val (.ref 99), .val (.ref 0), .val (.int x2), .val (.int x3), .val (.int (((sf (nx x3)) &&& (7 : Int32)) % (6 : Int32))), .val (.int (sf (nx (x3 + (1 : Int32))))), .val (.int r1.1), .val (.long r2.1), .second, .val (.int (0 : Int32)), .unset, .unset]) (St' := [.int (0 : Int32)]) (σ' := r3.2) [.iconst 0] (by decide +kernel) hc hT hF wi (by exact rfl) ?_
          exact am_wk (Ls' := [.val (.ref 99), .val (.ref 0), .val (.int x2), .val (.int x3), .unset, .unset, .unset, .val (.long r2.1), .unset, .unset, .unset, .unset]) (by simp [wkL]) (okc_q_law_81 hw hc hw0 hsc hn _ ih x2 x3 r2.1 (0 : Int32) r3.2)
      · refine am_blk (pc' := 89) (Ls' := [.val (.ref 99), .val (.ref 0), .val (.int x2), .val (.int x3), .val (.int (((sf (nx x3)) &&& (7 : Int32)) % (6 : Int32))), .val (.int (sf (nx (x3 + (1 : Int32))))), .val (.int r1.1), .val (.long r2.1), .second, .val (.int (0 : Int32)), .unset, .unset]) (St' := [.int (1 : Int32), .int (((sf (nx x3)) &&& (7 : Int32)) % (6 : Int32))]) (σ' := r2.2) [.iload 4, .iconst 1] (by decide +kernel) hc hT hF wi (by exact rfl) ?_
        refine am_icmp_ne (o := 42) (pc1 := 131) (by decide +kernel) hc (fun hq => ?_) (fun hq => ?_)
        · refine am_blk (pc' := 93) (Ls' := [.val (.ref 99), .val (.ref 0), .val (.int x2), .val (.int x3), .val (.int (((sf (nx x3)) &&& (7 : Int32)) % (6 : Int32))), .val (.int (sf (nx (x3 + (1 : Int32))))), .val (.int r1.1), .val (.long r2.1), .second, .val (.int (0 : Int32)), .unset, .unset]) (St' := [.ref 0]) (σ' := r2.2) [.aload_n 1] (by decide +kernel) hc hT hF wi (by exact rfl) ?_
          refine am_callV_I (W0 := 0) (argsL := []) (rest := []) rfl (lk_L_25 hw) rfl (by decide +kernel) hc (subF hw0) rfl (by show arity "()I" 0 = true; decide +kernel) (ok_c_rootDepth hw _) rfl ⟨by decide, by decide, Nat.le_of_eq rfl, rfl, rfl, by decide, by decide⟩ (fun r4 hr => ?_)
          refine am_blk (pc' := 99) (Ls' := [.val (.ref 99), .val (.ref 0), .val (.int x2), .val (.int x3), .val (.int (((sf (nx x3)) &&& (7 : Int32)) % (6 : Int32))), .val (.int (sf (nx (x3 + (1 : Int32))))), .val (.int r1.1), .val (.long r2.1), .second, .val (.int (0 : Int32)), .val (.int r4.1), .unset]) (St' := [.ref 0]) (σ' := r4.2) [.istore 10, .aload_n 1] (by decide +kernel) hc hT hF wi (by exact rfl) ?_
          refine am_callV_I (W0 := 0) (argsL := []) (rest := []) rfl (lk_L_29 hw) rfl (by decide +kernel) hc (subF hw0) rfl (by show arity "()I" 0 = true; decide +kernel) (ok_c_popRoot hw _) rfl ⟨by decide, by decide, Nat.le_of_eq rfl, rfl, rfl, by decide, by decide⟩ (fun r5 hr => ?_)
          refine am_blk (pc' := 106) (Ls' := [.val (.ref 99), .val (.ref 0), .val (.int x2), .val (.int x3), .val (.int (((sf (nx x3)) &&& (7 : Int32)) % (6 : Int32))), .val (.int (sf (nx (x3 + (1 : Int32))))), .val (.int r1.1), .val (.long r2.1), .second, .val (.int (0 : Int32)), .val (.int r4.1), .val (.int r5.1)]) (St' := [.int r4.1]) (σ' := r5.2) [.istore 11, .iload 10] (by decide +kernel) hc hT hF wi (by exact rfl) ?_
          refine am_if_ne (o := 7) (pc1 := 113) (by decide +kernel) hc (fun hq => ?_) (fun hq => ?_)
          · refine am_blk (pc' := 114) (Ls' := [.val (.ref 99), .val (.ref 0), .val (.int x2), .val (.int x3), .val (.int (((sf (nx x3)) &&& (7 : Int32)) % (6 : Int32))), .val (.int (sf (nx (x3 + (1 : Int32))))), .val (.int r1.1), .val (.long r2.1), .second, .val (.int (0 : Int32)), .val (.int r4.1), .val (.int r5.1)]) (St' := [.int (1 : Int32)]) (σ' := r5.2) [.iconst 1, .goto 4] (by decide +kernel) hc hT hF wi (by exact rfl) ?_
            exact am_wk (Ls' := [.val (.ref 99), .val (.ref 0), .val (.int x2), .val (.int x3), .unset, .unset, .unset, .val (.long r2.1), .unset, .unset, .unset, .val (.int r5.1)]) (by simp [wkL]) (okc_q_law_114 hw hc hw0 hsc hn _ ih x2 x3 r2.1 r5.1 (1 : Int32) r5.2)
          · refine am_blk (pc' := 114) (Ls' := [.val (.ref 99), .val (.ref 0), .val (.int x2), .val (.int x3), .val (.int (((sf (nx x3)) &&& (7 : Int32)) % (6 : Int32))), .val (.int (sf (nx (x3 + (1 : Int32))))), .val (.int r1.1), .val (.long r2.1), .second, .val (.int (0 : Int32)), .val (.int r4.1), .val (.int r5.1)]) (St' := [.int (0 : Int32)]) (σ' := r5.2) [.iconst 0] (by decide +kernel) hc hT hF wi (by exact rfl) ?_
            exact am_wk (Ls' := [.val (.ref 99), .val (.ref 0), .val (.int x2), .val (.int x3), .unset, .unset, .unset, .val (.long r2.1), .unset, .unset, .unset, .val (.int r5.1)]) (by simp [wkL]) (okc_q_law_114 hw hc hw0 hsc hn _ ih x2 x3 r2.1 r5.1 (0 : Int32) r5.2)
        · refine am_blk (pc' := 134) (Ls' := [.val (.ref 99), .val (.ref 0), .val (.int x2), .val (.int x3), .val (.int (((sf (nx x3)) &&& (7 : Int32)) % (6 : Int32))), .val (.int (sf (nx (x3 + (1 : Int32))))), .val (.int r1.1), .val (.long r2.1), .second, .val (.int (0 : Int32)), .unset, .unset]) (St' := [.int (2 : Int32), .int (((sf (nx x3)) &&& (7 : Int32)) % (6 : Int32))]) (σ' := r2.2) [.iload 4, .iconst 2] (by decide +kernel) hc hT hF wi (by exact rfl) ?_
          refine am_icmp_ne (o := 34) (pc1 := 168) (by decide +kernel) hc (fun hq => ?_) (fun hq => ?_)
          · refine am_blk (pc' := 144) (Ls' := [.val (.ref 99), .val (.ref 0), .val (.int x2), .val (.int x3), .val (.int (((sf (nx x3)) &&& (7 : Int32)) % (6 : Int32))), .val (.int (sf (nx (x3 + (1 : Int32))))), .val (.int r1.1), .val (.long r2.1), .second, .val (.int (0 : Int32)), .unset, .unset]) (St' := [.int (6 : Int32), .int ((sf (nx (x3 + (1 : Int32)))) &&& (15 : Int32))]) (σ' := r2.2) [.iload 5, .bipush 15, .iand, .bipush 6] (by decide +kernel) hc hT hF wi (by exact rfl) ?_
            refine am_irem (by decide +kernel) hc (fun hy => ?_)
            refine am_blk (pc' := 152) (Ls' := [.val (.ref 99), .val (.ref 0), .val (.int x2), .val (.int x3), .val (.int (((sf (nx x3)) &&& (7 : Int32)) % (6 : Int32))), .val (.int (sf (nx (x3 + (1 : Int32))))), .val (.int r1.1), .val (.long r2.1), .second, .val (.int (0 : Int32)), .val (.int (((sf (nx (x3 + (1 : Int32)))) &&& (15 : Int32)) % (6 : Int32))), .unset]) (St' := [.int r1.1, .int (((sf (nx (x3 + (1 : Int32)))) &&& (15 : Int32)) % (6 : Int32)), .ref 0]) (σ' := r2.2) [.istore 10, .aload_n 1, .iload 10, .iload 6] (by decide +kernel) hc hT hF wi (by exact rfl) ?_
            refine am_callV_I (W0 := 0) (argsL := [.int (((sf (nx (x3 + (1 : Int32)))) &&& (15 : Int32)) % (6 : Int32)), .int r1.1]) (rest := []) rfl (lk_L_32 hw) rfl (by decide +kernel) hc (subF hw0) rfl (by show arity "(II)Z" 2 = true; decide +kernel) (ok_c_setRoot hw (((sf (nx (x3 + (1 : Int32)))) &&& (15 : Int32)) % (6 : Int32)) r1.1 _) rfl ⟨by decide, by decide, Nat.le_of_eq rfl, rfl, rfl, by decide, by decide⟩ (fun r6 hr => ?_)
            refine am_if_ne (o := 7) (pc1 := 162) (by decide +kernel) hc (fun hq => ?_) (fun hq => ?_)
            · refine am_blk (pc' := 163) (Ls' := [.val (.ref 99), .val (.ref 0), .val (.int x2), .val (.int x3), .val (.int (((sf (nx x3)) &&& (7 : Int32)) % (6 : Int32))), .val (.int (sf (nx (x3 + (1 : Int32))))), .val (.int r1.1), .val (.long r2.1), .second, .val (.int (0 : Int32)), .val (.int (((sf (nx (x3 + (1 : Int32)))) &&& (15 : Int32)) % (6 : Int32))), .unset]) (St' := [.int (1 : Int32)]) (σ' := r6.2) [.iconst 1, .goto 4] (by decide +kernel) hc hT hF wi (by exact rfl) ?_
              exact am_wk (Ls' := [.val (.ref 99), .val (.ref 0), .val (.int x2), .val (.int x3), .unset, .unset, .unset, .val (.long r2.1), .unset, .unset, .unset, .unset]) (by simp [wkL]) (okc_q_law_163 hw hc hw0 hsc hn _ ih x2 x3 r2.1 (1 : Int32) r6.2)
            · refine am_blk (pc' := 163) (Ls' := [.val (.ref 99), .val (.ref 0), .val (.int x2), .val (.int x3), .val (.int (((sf (nx x3)) &&& (7 : Int32)) % (6 : Int32))), .val (.int (sf (nx (x3 + (1 : Int32))))), .val (.int r1.1), .val (.long r2.1), .second, .val (.int (0 : Int32)), .val (.int (((sf (nx (x3 + (1 : Int32)))) &&& (15 : Int32)) % (6 : Int32))), .unset]) (St' := [.int (0 : Int32)]) (σ' := r6.2) [.iconst 0] (by decide +kernel) hc hT hF wi (by exact rfl) ?_
              exact am_wk (Ls' := [.val (.ref 99), .val (.ref 0), .val (.int x2), .val (.int x3), .unset, .unset, .unset, .val (.long r2.1), .unset, .unset, .unset, .unset]) (by simp [wkL]) (okc_q_law_163 hw hc hw0 hsc hn _ ih x2 x3 r2.1 (0 : Int32) r6.2)
          · refine am_blk (pc' := 171) (Ls' := [.val (.ref 99), .val (.ref 0), .val (.int x2), .val (.int x3), .val (.int (((sf (nx x3)) &&& (7 : Int32)) % (6 : Int32))), .val (.int (sf (nx (x3 + (1 : Int32))))), .val (.int r1.1), .val (.long r2.1), .second, .val (.int (0 : Int32)), .unset, .unset]) (St' := [.int (3 : Int32), .int (((sf (nx x3)) &&& (7 : Int32)) % (6 : Int32))]) (σ' := r2.2) [.iload 4, .iconst 3] (by decide +kernel) hc hT hF wi (by exact rfl) ?_
            refine am_icmp_ne (o := 32) (pc1 := 203) (by decide +kernel) hc (fun hq => ?_) (fun hq => ?_)
            · refine am_blk (pc' := 181) (Ls' := [.val (.ref 99), .val (.ref 0), .val (.int x2), .val (.int x3), .val (.int (((sf (nx x3)) &&& (7 : Int32)) % (6 : Int32))), .val (.int (sf (nx (x3 + (1 : Int32))))), .val (.int r1.1), .val (.long r2.1), .second, .val (.int (0 : Int32)), .unset, .unset]) (St' := [.int (18 : Int32), .int ((sf (nx (x3 + (1 : Int32)))) &&& (31 : Int32))]) (σ' := r2.2) [.iload 5, .bipush 31, .iand, .bipush 18] (by decide +kernel) hc hT hF wi (by exact rfl) ?_
              refine am_irem (by decide +kernel) hc (fun hy => ?_)
              refine am_blk (pc' := 187) (Ls' := [.val (.ref 99), .val (.ref 0), .val (.int x2), .val (.int x3), .val (.int (((sf (nx x3)) &&& (7 : Int32)) % (6 : Int32))), .val (.int (sf (nx (x3 + (1 : Int32))))), .val (.int r1.1), .val (.long r2.1), .second, .val (.int (0 : Int32)), .val (.int (((sf (nx (x3 + (1 : Int32)))) &&& (31 : Int32)) % (18 : Int32))), .unset]) (St' := [.int (((sf (nx (x3 + (1 : Int32)))) &&& (31 : Int32)) % (18 : Int32)), .ref 0]) (σ' := r2.2) [.istore 10, .aload_n 1, .iload 10] (by decide +kernel) hc hT hF wi (by exact rfl) ?_
              refine am_callV_I (W0 := 0) (argsL := [.int (((sf (nx (x3 + (1 : Int32)))) &&& (31 : Int32)) % (18 : Int32))]) (rest := []) rfl (lk_L_36 hw) rfl (by decide +kernel) hc (subF hw0) rfl (by show arity "(I)I" 1 = true; decide +kernel) (ok_c_alloc hw (((sf (nx (x3 + (1 : Int32)))) &&& (31 : Int32)) % (18 : Int32)) _) rfl ⟨by decide, by decide, Nat.le_of_eq rfl, rfl, rfl, by decide, by decide⟩ (fun r7 hr => ?_)
              refine am_if_ne (o := 7) (pc1 := 197) (by decide +kernel) hc (fun hq => ?_) (fun hq => ?_)
              · refine am_blk (pc' := 198) (Ls' := [.val (.ref 99), .val (.ref 0), .val (.int x2), .val (.int x3), .val (.int (((sf (nx x3)) &&& (7 : Int32)) % (6 : Int32))), .val (.int (sf (nx (x3 + (1 : Int32))))), .val (.int r1.1), .val (.long r2.1), .second, .val (.int (0 : Int32)), .val (.int (((sf (nx (x3 + (1 : Int32)))) &&& (31 : Int32)) % (18 : Int32))), .unset]) (St' := [.int (1 : Int32)]) (σ' := r7.2) [.iconst 1, .goto 4] (by decide +kernel) hc hT hF wi (by exact rfl) ?_
                exact am_wk (Ls' := [.val (.ref 99), .val (.ref 0), .val (.int x2), .val (.int x3), .unset, .unset, .unset, .val (.long r2.1), .unset, .unset, .unset, .unset]) (by simp [wkL]) (okc_q_law_198 hw hc hw0 hsc hn _ ih x2 x3 r2.1 (1 : Int32) r7.2)
              · refine am_blk (pc' := 198) (Ls' := [.val (.ref 99), .val (.ref 0), .val (.int x2), .val (.int x3), .val (.int (((sf (nx x3)) &&& (7 : Int32)) % (6 : Int32))), .val (.int (sf (nx (x3 + (1 : Int32))))), .val (.int r1.1), .val (.long r2.1), .second, .val (.int (0 : Int32)), .val (.int (((sf (nx (x3 + (1 : Int32)))) &&& (31 : Int32)) % (18 : Int32))), .unset]) (St' := [.int (0 : Int32)]) (σ' := r7.2) [.iconst 0] (by decide +kernel) hc hT hF wi (by exact rfl) ?_
                exact am_wk (Ls' := [.val (.ref 99), .val (.ref 0), .val (.int x2), .val (.int x3), .unset, .unset, .unset, .val (.long r2.1), .unset, .unset, .unset, .unset]) (by simp [wkL]) (okc_q_law_198 hw hc hw0 hsc hn _ ih x2 x3 r2.1 (0 : Int32) r7.2)
            · refine am_blk (pc' := 206) (Ls' := [.val (.ref 99), .val (.ref 0), .val (.int x2), .val (.int x3), .val (.int (((sf (nx x3)) &&& (7 : Int32)) % (6 : Int32))), .val (.int (sf (nx (x3 + (1 : Int32))))), .val (.int r1.1), .val (.long r2.1), .second, .val (.int (0 : Int32)), .unset, .unset]) (St' := [.int (4 : Int32), .int (((sf (nx x3)) &&& (7 : Int32)) % (6 : Int32))]) (σ' := r2.2) [.iload 4, .iconst 4] (by decide +kernel) hc hT hF wi (by exact rfl) ?_
              refine am_icmp_ne (o := 39) (pc1 := 245) (by decide +kernel) hc (fun hq => ?_) (fun hq => ?_)
              · refine am_blk (pc' := 220) (Ls' := [.val (.ref 99), .val (.ref 0), .val (.int x2), .val (.int x3), .val (.int (((sf (nx x3)) &&& (7 : Int32)) % (6 : Int32))), .val (.int (sf (nx (x3 + (1 : Int32))))), .val (.int r1.1), .val (.long r2.1), .second, .val (.int (0 : Int32)), .unset, .unset]) (St' := [.int (80 : Int32), .int ((sf (nx (x3 + (1 : Int32)))) &&& (127 : Int32)), .int (x2 - (8 : Int32))]) (σ' := r2.2) [.iload_n 2, .bipush 8, .isub, .iload 5, .bipush 127, .iand, .bipush 80] (by decide +kernel) hc hT hF wi (by exact rfl) ?_
                refine am_irem (by decide +kernel) hc (fun hy => ?_)
                refine am_blk (pc' := 229) (Ls' := [.val (.ref 99), .val (.ref 0), .val (.int x2), .val (.int x3), .val (.int (((sf (nx x3)) &&& (7 : Int32)) % (6 : Int32))), .val (.int (sf (nx (x3 + (1 : Int32))))), .val (.int r1.1), .val (.long r2.1), .second, .val (.int (0 : Int32)), .val (.int ((x2 - (8 : Int32)) + (((sf (nx (x3 + (1 : Int32)))) &&& (127 : Int32)) % (80 : Int32)))), .unset]) (St' := [.int r1.1, .int ((x2 - (8 : Int32)) + (((sf (nx (x3 + (1 : Int32)))) &&& (127 : Int32)) % (80 : Int32))), .ref 0]) (σ' := r2.2) [.iadd, .istore 10, .aload_n 1, .iload 10, .iload 6] (by decide +kernel) hc hT hF wi (by exact rfl) ?_
                refine am_callV_I (W0 := 0) (argsL := [.int ((x2 - (8 : Int32)) + (((sf (nx (x3 + (1 : Int32)))) &&& (127 : Int32)) % (80 : Int32))), .int r1.1]) (rest := []) rfl (lk_L_39 hw) rfl (by decide +kernel) hc (subF hw0) rfl (by show arity "(II)Z" 2 = true; decide +kernel) (ok_c_store hw ((x2 - (8 : Int32)) + (((sf (nx (x3 + (1 : Int32)))) &&& (127 : Int32)) % (80 : Int32))) r1.1 _) rfl ⟨by decide, by decide, Nat.le_of_eq rfl, rfl, rfl, by decide, by decide⟩ (fun r8 hr => ?_)
                refine am_if_ne (o := 7) (pc1 := 239) (by decide +kernel) hc (fun hq => ?_) (fun hq => ?_)
                · refine am_blk (pc' := 240) (Ls' := [.val (.ref 99), .val (.ref 0), .val (.int x2), .val (.int x3), .val (.int (((sf (nx x3)) &&& (7 : Int32)) % (6 : Int32))), .val (.int (sf (nx (x3 + (1 : Int32))))), .val (.int r1.1), .val (.long r2.1), .second, .val (.int (0 : Int32)), .val (.int ((x2 - (8 : Int32)) + (((sf (nx (x3 + (1 : Int32)))) &&& (127 : Int32)) % (80 : Int32)))), .unset]) (St' := [.int (1 : Int32)]) (σ' := r8.2) [.iconst 1, .goto 4] (by decide +kernel) hc hT hF wi (by exact rfl) ?_
                  exact am_wk (Ls' := [.val (.ref 99), .val (.ref 0), .val (.int x2), .val (.int x3), .unset, .unset, .unset, .val (.long r2.1), .unset, .unset, .unset, .unset]) (by simp [wkL]) (okc_q_law_240 hw hc hw0 hsc hn _ ih x2 x3 r2.1 (1 : Int32) r8.2)
                · refine am_blk (pc' := 240) (Ls' := [.val (.ref 99), .val (.ref 0), .val (.int x2), .val (.int x3), .val (.int (((sf (nx x3)) &&& (7 : Int32)) % (6 : Int32))), .val (.int (sf (nx (x3 + (1 : Int32))))), .val (.int r1.1), .val (.long r2.1), .second, .val (.int (0 : Int32)), .val (.int ((x2 - (8 : Int32)) + (((sf (nx (x3 + (1 : Int32)))) &&& (127 : Int32)) % (80 : Int32)))), .unset]) (St' := [.int (0 : Int32)]) (σ' := r8.2) [.iconst 0] (by decide +kernel) hc hT hF wi (by exact rfl) ?_
                  exact am_wk (Ls' := [.val (.ref 99), .val (.ref 0), .val (.int x2), .val (.int x3), .unset, .unset, .unset, .val (.long r2.1), .unset, .unset, .unset, .unset]) (by simp [wkL]) (okc_q_law_240 hw hc hw0 hsc hn _ ih x2 x3 r2.1 (0 : Int32) r8.2)
              · refine am_blk (pc' := 246) (Ls' := [.val (.ref 99), .val (.ref 0), .val (.int x2), .val (.int x3), .val (.int (((sf (nx x3)) &&& (7 : Int32)) % (6 : Int32))), .val (.int (sf (nx (x3 + (1 : Int32))))), .val (.int r1.1), .val (.long r2.1), .second, .val (.int (0 : Int32)), .unset, .unset]) (St' := [.ref 0]) (σ' := r2.2) [.aload_n 1] (by decide +kernel) hc hT hF wi (by exact rfl) ?_
                refine am_callV_I (W0 := 0) (argsL := []) (rest := []) rfl (lk_L_42 hw) rfl (by decide +kernel) hc (subF hw0) rfl (by show arity "()I" 0 = true; decide +kernel) (ok_c_collect hw _) rfl ⟨by decide, by decide, Nat.le_of_eq rfl, rfl, rfl, by decide, by decide⟩ (fun r9 hr => ?_)
                refine am_blk (pc' := 250) (Ls' := [.val (.ref 99), .val (.ref 0), .val (.int x2), .val (.int x3), .val (.int (((sf (nx x3)) &&& (7 : Int32)) % (6 : Int32))), .val (.int (sf (nx (x3 + (1 : Int32))))), .val (.int r1.1), .val (.long r2.1), .second, .val (.int (0 : Int32)), .unset, .unset]) (St' := []) (σ' := r9.2) [.pop] (by decide +kernel) hc hT hF wi (by exact rfl) ?_
                exact am_wk (Ls' := [.val (.ref 99), .val (.ref 0), .val (.int x2), .val (.int x3), .unset, .unset, .unset, .val (.long r2.1), .unset, .val (.int (0 : Int32)), .unset, .unset]) (by simp [wkL]) (okc_q_law_250 hw hc hw0 hsc hn _ ih x2 x3 r2.1 (0 : Int32) r9.2)
    · refine am_blk (pc' := 274) (Ls' := [.val (.ref 99), .val (.ref 0), .val (.int x2), .val (.int x3), .unset, .unset, .unset, .unset, .unset, .unset, .unset, .unset]) (St' := [.ref 0]) (σ' := σ) [.aload_n 1] (by decide +kernel) hc hT hF wi (by exact rfl) ?_
      refine am_callV_I (W0 := 0) (argsL := []) (rest := []) rfl (lk_L_42 hw) rfl (by decide +kernel) hc (subF hw0) rfl (by show arity "()I" 0 = true; decide +kernel) (ok_c_collect hw _) rfl ⟨by decide, by decide, Nat.le_of_eq rfl, rfl, rfl, by decide, by decide⟩ (fun r10 hr => ?_)
      refine am_blk (pc' := 279) (Ls' := [.val (.ref 99), .val (.ref 0), .val (.int x2), .val (.int x3), .unset, .unset, .unset, .unset, .unset, .unset, .unset, .unset]) (St' := [.ref 0]) (σ' := r10.2) [.pop, .aload_n 1] (by decide +kernel) hc hT hF wi (by exact rfl) ?_
      refine am_callS_J (W0 := 0) (argsL := [.ref 0]) (rest := []) (lk_L_18 hw) (by decide +kernel) hc (subF hw0) rfl (by show arity "(LConservativeBiY;)J" 1 = true; decide +kernel) (ok_q_fp hw _) rfl ⟨by decide, by decide, Nat.le_of_eq rfl, rfl, rfl, by decide, by decide⟩ (fun r11 hr => ?_)
      refine am_blk (pc' := 284) (Ls' := [.val (.ref 99), .val (.ref 0), .val (.int x2), .val (.long r11.1), .second, .unset, .unset, .unset, .unset, .unset, .unset, .unset]) (St' := [.ref 0]) (σ' := r11.2) [.lstore_n 3, .aload_n 1] (by decide +kernel) hc hT hF wi (by exact rfl) ?_
      refine am_callV_I (W0 := 0) (argsL := []) (rest := []) rfl (lk_L_45 hw) rfl (by decide +kernel) hc (subF hw0) rfl (by show arity "()I" 0 = true; decide +kernel) (ok_c_liveObjects hw _) rfl ⟨by decide, by decide, Nat.le_of_eq rfl, rfl, rfl, by decide, by decide⟩ (fun r12 hr => ?_)
      refine am_blk (pc' := 290) (Ls' := [.val (.ref 99), .val (.ref 0), .val (.int x2), .val (.long r11.1), .second, .val (.int r12.1), .unset, .unset, .unset, .unset, .unset, .unset]) (St' := [.ref 0]) (σ' := r12.2) [.istore 5, .aload_n 1] (by decide +kernel) hc hT hF wi (by exact rfl) ?_
      refine am_callV_I (W0 := 0) (argsL := []) (rest := []) rfl (lk_L_42 hw) rfl (by decide +kernel) hc (subF hw0) rfl (by show arity "()I" 0 = true; decide +kernel) (ok_c_collect hw _) rfl ⟨by decide, by decide, Nat.le_of_eq rfl, rfl, rfl, by decide, by decide⟩ (fun r13 hr => ?_)
      refine am_blk (pc' := 297) (Ls' := [.val (.ref 99), .val (.ref 0), .val (.int x2), .val (.long r11.1), .second, .val (.int r12.1), .val (.int r13.1), .unset, .unset, .unset, .unset, .unset]) (St' := [.int r13.1]) (σ' := r13.2) [.istore 6, .iload 6] (by decide +kernel) hc hT hF wi (by exact rfl) ?_
      refine am_if_eq (o := 5) (pc1 := 302) (by decide +kernel) hc (fun hq => ?_) (fun hq => ?_)
      · refine am_blk (pc' := 303) (Ls' := [.val (.ref 99), .val (.ref 0), .val (.int x2), .val (.long r11.1), .second, .val (.int r12.1), .val (.int r13.1), .unset, .unset, .unset, .unset, .unset]) (St' := [.ref 0]) (σ' := r13.2) [.aload_n 1] (by decide +kernel) hc hT hF wi (by exact rfl) ?_
        refine am_callV_I (W0 := 0) (argsL := []) (rest := []) rfl (lk_L_45 hw) rfl (by decide +kernel) hc (subF hw0) rfl (by show arity "()I" 0 = true; decide +kernel) (ok_c_liveObjects hw _) rfl ⟨by decide, by decide, Nat.le_of_eq rfl, rfl, rfl, by decide, by decide⟩ (fun r14 hr => ?_)
        refine am_blk (pc' := 308) (Ls' := [.val (.ref 99), .val (.ref 0), .val (.int x2), .val (.long r11.1), .second, .val (.int r12.1), .val (.int r13.1), .unset, .unset, .unset, .unset, .unset]) (St' := [.int r12.1, .int r14.1]) (σ' := r14.2) [.iload 5] (by decide +kernel) hc hT hF wi (by exact rfl) ?_
        refine am_icmp_eq (o := 5) (pc1 := 313) (by decide +kernel) hc (fun hq => ?_) (fun hq => ?_)
        · refine am_blk (pc' := 314) (Ls' := [.val (.ref 99), .val (.ref 0), .val (.int x2), .val (.long r11.1), .second, .val (.int r12.1), .val (.int r13.1), .unset, .unset, .unset, .unset, .unset]) (St' := [.ref 0]) (σ' := r14.2) [.aload_n 1] (by decide +kernel) hc hT hF wi (by exact rfl) ?_
          refine am_callS_J (W0 := 0) (argsL := [.ref 0]) (rest := []) (lk_L_18 hw) (by decide +kernel) hc (subF hw0) rfl (by show arity "(LConservativeBiY;)J" 1 = true; decide +kernel) (ok_q_fp hw _) rfl ⟨by decide, by decide, Nat.le_of_eq rfl, rfl, rfl, by decide, by decide⟩ (fun r15 hr => ?_)
          refine am_blk (pc' := 319) (Ls' := [.val (.ref 99), .val (.ref 0), .val (.int x2), .val (.long r11.1), .second, .val (.int r12.1), .val (.int r13.1), .unset, .unset, .unset, .unset, .unset]) (St' := [.int (XT.cmpL r15.1 r11.1)]) (σ' := r15.2) [.lload_n 3, .lcmp] (by decide +kernel) hc hT hF wi (by exact rfl) ?_
          refine am_if_eq (o := 5) (pc1 := 324) (by decide +kernel) hc (fun hq => ?_) (fun hq => ?_)
          · refine am_blk (pc' := 325) (Ls' := [.val (.ref 99), .val (.ref 0), .val (.int x2), .val (.long r11.1), .second, .val (.int r12.1), .val (.int r13.1), .unset, .unset, .unset, .unset, .unset]) (St' := [.int (1 : Int32)]) (σ' := r15.2) [.iconst 1] (by decide +kernel) hc hT hF wi (by exact rfl) ?_
            exact am_retZ (by decide +kernel) hc (by decide) (by decide) (fun h W O => rfl)
          · refine am_blk (pc' := 323) (Ls' := [.val (.ref 99), .val (.ref 0), .val (.int x2), .val (.long r11.1), .second, .val (.int r12.1), .val (.int r13.1), .unset, .unset, .unset, .unset, .unset]) (St' := [.int (0 : Int32)]) (σ' := r15.2) [.iconst 0] (by decide +kernel) hc hT hF wi (by exact rfl) ?_
            exact am_retZ (by decide +kernel) hc (by decide) (by decide) (fun h W O => rfl)
        · refine am_blk (pc' := 312) (Ls' := [.val (.ref 99), .val (.ref 0), .val (.int x2), .val (.long r11.1), .second, .val (.int r12.1), .val (.int r13.1), .unset, .unset, .unset, .unset, .unset]) (St' := [.int (0 : Int32)]) (σ' := r14.2) [.iconst 0] (by decide +kernel) hc hT hF wi (by exact rfl) ?_
          exact am_retZ (by decide +kernel) hc (by decide) (by decide) (fun h W O => rfl)
      · refine am_blk (pc' := 301) (Ls' := [.val (.ref 99), .val (.ref 0), .val (.int x2), .val (.long r11.1), .second, .val (.int r12.1), .val (.int r13.1), .unset, .unset, .unset, .unset, .unset]) (St' := [.int (0 : Int32)]) (σ' := r13.2) [.iconst 0] (by decide +kernel) hc hT hF wi (by exact rfl) ?_
        exact am_retZ (by decide +kernel) hc (by decide) (by decide) (fun h W O => rfl)
def q_law (sn : Nat) (sf : Nat → Int32) : Option (Int32 × Sg) :=
  (c_init (4 : Int32) (4 : Int32)).bind fun r1 => q_law_16 sn sf 400 (4096 : Int32) (0 : Int32) r1
set_option maxRecDepth 65536 in
set_option maxHeartbeats 4000000 in
theorem ok_q_law (hw : WH a0 Z) (hw0 : Rd w0 10) (hsc : w0 99 = some (.inr (.int, sn, some sf))) (hn : n0 ≤ h0.size) (hc : Cx p s m meth c Z "ConservativeBiYL7" code 12 (some .boolean) "law") : OkR p l e rm_q_law s m args below meth c Z "ConservativeBiY" fsC n0 h0 FL A w0 0 0 0 [.val (.ref 99), .unset, .unset, .unset, .unset, .unset, .unset, .unset, .unset, .unset, .unset, .unset] [] zs (q_law sn sf) := by
  have hT := tabL hw "law"
  have hF := fsokC hw
  have wi := wiC hw
  unfold q_law
  refine am_new (mm := 10) (by decide +kernel) hc hF (hw _ (List.mem_of_getElem? (i := 0) rfl)) wi (wzC hw) hw0 ⟨rfl, rfl⟩ hn ⟨by decide, by decide⟩ (fun A hA => ?_)
  refine am_blk (pc' := 6) (Ls' := [.val (.ref 99), .unset, .unset, .unset, .unset, .unset, .unset, .unset, .unset, .unset, .unset, .unset]) (St' := [.int (4 : Int32), .int (4 : Int32), .ref 0, .ref 0]) (σ' := zs) [.dup, .iconst 4, .iconst 4] (by decide +kernel) hc hT hF wi (by exact rfl) ?_
  refine am_ctor (arrs := arrsC) (W0 := 1) (argsL := [.int (4 : Int32), .int (4 : Int32)]) (rest := [.ref 0]) (lk_L_9 hw) (by decide +kernel) hc hw0 rfl (by show arity "(II)V" 2 = true; decide +kernel) (ok_c_init hw (4 : Int32) (4 : Int32)) ⟨rfl, rfl⟩ rfl hn ⟨by decide, by decide, Nat.le_of_eq rfl, by decide, by decide⟩ (fun A r1 hr => ?_)
  refine am_blk (pc' := 16) (Ls' := [.val (.ref 99), .val (.ref 0), .val (.int (4096 : Int32)), .val (.int (0 : Int32)), .unset, .unset, .unset, .unset, .unset, .unset, .unset, .unset]) (St' := []) (σ' := r1) [.astore_n 1, .sipush 4096, .istore_n 2, .iconst 0, .istore_n 3] (by decide +kernel) hc hT hF wi (by exact rfl) ?_
  exact am_wk (Ls' := [.val (.ref 99), .val (.ref 0), .val (.int (4096 : Int32)), .val (.int (0 : Int32)), .unset, .unset, .unset, .unset, .unset, .unset, .unset, .unset]) (by simp [wkL]) (okc_q_law_16 hw hc hw0 hsc hn 400 (4096 : Int32) (0 : Int32) r1)
end Walk
/-! numbers -/
theorem ti_lt {x y : Int32} : x < y ↔ x.toInt < y.toInt := Int32.lt_iff_toInt_lt
theorem ti_eq {x y : Int32} : x = y ↔ x.toInt = y.toInt := Int32.toInt_inj.symm
theorem ti_lo (x : Int32) : -2147483648 ≤ x.toInt := Int32.le_toInt x
theorem ti_hi (x : Int32) : x.toInt ≤ 2147483647 := by have := Int32.toInt_lt x; omega
theorem ti_add {x y : Int32} (h1 : -2147483648 ≤ x.toInt + y.toInt) (h2 : x.toInt + y.toInt ≤ 2147483647) : (x + y).toInt = x.toInt + y.toInt := by
  rw [Int32.toInt_add]; exact Int.bmod_eq_of_le (by omega) (by omega)
theorem ti_sub {x y : Int32} (h1 : -2147483648 ≤ x.toInt - y.toInt) (h2 : x.toInt - y.toInt ≤ 2147483647) : (x - y).toInt = x.toInt - y.toInt := by
  rw [Int32.toInt_sub]; exact Int.bmod_eq_of_le (by omega) (by omega)
theorem ti_mul {x y : Int32} (h1 : -2147483648 ≤ x.toInt * y.toInt) (h2 : x.toInt * y.toInt ≤ 2147483647) : (x * y).toInt = x.toInt * y.toInt := by
  rw [Int32.toInt_mul]; exact Int.bmod_eq_of_le (by omega) (by omega)
theorem ti_add1 {x : Int32} (h : x.toInt < 2147483647) : (x + 1).toInt = x.toInt + 1 := by
  have := ti_lo x
  have e : (1 : Int32).toInt = 1 := rfl
  rw [ti_add (by omega) (by omega), e]
theorem inbT {i : Int32} {n : Nat} (h1 : 0 ≤ i.toInt) (h2 : i.toInt < (n : Int)) : inb i n = true := inb_iff.mpr ⟨h1, h2⟩
theorem nx_eq {i : Int32} {n : Nat} (h : i.toInt = (n : Int)) : nx i = n := by unfold nx; omega
theorem nx_lt {i : Int32} {n : Nat} (h1 : 0 ≤ i.toInt) (h2 : i.toInt < (n : Int)) : nx i < n := by unfold nx; omega
theorem ti_nat {q : Int32} (h : 0 ≤ q.toInt) : q.toBitVec.toNat = q.toInt.toNat := by
  have e : q.toInt = q.toBitVec.toInt := rfl
  rw [BitVec.toInt_eq_toNat_cond] at e
  have := q.toBitVec.isLt
  split at e <;> omega
theorem ti_ofNat {n : Nat} (h : n < 2147483648) : (Int32.ofNat n).toInt = (n : Int) := Int32.toInt_ofNat_of_lt h
theorem eq_ofNat {x : Int32} {n : Nat} (h : x.toInt = (n : Int)) : x = Int32.ofNat n := by
  have := ti_hi x
  rw [ti_eq, ti_ofNat (by omega)]; exact h
theorem nx_ofNat {n : Nat} (h : n < 2147483648) : nx (Int32.ofNat n) = n := nx_eq (ti_ofNat h)
theorem ofNat_nx {x : Int32} (h : 0 ≤ x.toInt) : Int32.ofNat (nx x) = x := by
  have := ti_hi x
  rw [ti_eq, ti_ofNat (by unfold nx; omega)]; unfold nx; omega
theorem ofNat_succ (n : Nat) : Int32.ofNat n + 1 = Int32.ofNat (n + 1) := by
  rw [Int32.ofNat_add]; rfl
theorem ofNat_lt {a b : Nat} (ha : a < 2147483648) (hb : b < 2147483648) : Int32.ofNat a < Int32.ofNat b ↔ a < b := by
  rw [ti_lt, ti_ofNat ha, ti_ofNat hb]; omega
theorem ti_shr {x q : Int32} {k : Nat} (hq : q.toInt = (k : Int)) (hk : k < 32) : (x >>> (q &&& 31)).toInt = x.toInt / ((2 ^ k : Nat) : Int) := c_ishr x q k (by rw [ti_nat (by omega)]; omega)
theorem ti_shl {x q : Int32} {k : Nat} (hq : q.toInt = (k : Int)) (hk : k < 32) (h1 : -2147483648 ≤ x.toInt * ((2 ^ k : Nat) : Int)) (h2 : x.toInt * ((2 ^ k : Nat) : Int) ≤ 2147483647) : (x <<< (q &&& 31)).toInt = x.toInt * ((2 ^ k : Nat) : Int) := by
  have a := c_ishl x q k (by rw [ti_nat (by omega)]; omega)
  have b := ti_lo (x <<< (q &&& 31))
  have c := ti_hi (x <<< (q &&& 31))
  generalize x.toInt * ((2 ^ k : Nat) : Int) = z at *
  omega
/-- a counted loop: an invariant goes through -/
theorem loop_inv {α : Type} (L : Nat → Int32 → Sg → Option α) (body : Int32 → Sg → Option Sg) (exit : Sg → Option α) (N : Nat) (hN : N < 2147483648)
    (hL : ∀ f i σ, L (f + 1) i σ = if i < Int32.ofNat N then (body i σ).bind (fun r => L f (i + 1) r) else exit σ) (Inv : Nat → Sg → Prop)
    (hb : ∀ i σ, i < N → Inv i σ → ∃ σ', body (Int32.ofNat i) σ = some σ' ∧ Inv (i + 1) σ') :
    ∀ (k i fuel : Nat) (σ : Sg), i + k = N → k < fuel → Inv i σ → ∃ σ', L fuel (Int32.ofNat i) σ = exit σ' ∧ Inv N σ' := by
  intro k
  induction k with
  | zero =>
    intro i fuel σ h1 h2 h3
    obtain ⟨f, rfl⟩ : ∃ f, fuel = f + 1 := ⟨fuel - 1, by omega⟩
    have : i = N := by omega
    subst this
    rw [hL, if_neg (by rw [ofNat_lt hN hN]; omega)]
    exact ⟨σ, rfl, h3⟩
  | succ k ih =>
    intro i fuel σ h1 h2 h3
    obtain ⟨f, rfl⟩ : ∃ f, fuel = f + 1 := ⟨fuel - 1, by omega⟩
    obtain ⟨σ1, q1, q2⟩ := hb i σ (by omega) h3
    rw [hL, if_pos (by rw [ofNat_lt (by omega) hN]; omega), q1, Option.bind_some, ofNat_succ]
    exact ih (i + 1) f σ1 (by omega) (by omega) q2
/-! bits of longs -/
/-- bit m of a table -/
def tbL (y : Int64) (m : Nat) : Bool := y.toBitVec.getLsbD m
theorem cmp0 (x y : Int64) : XT.cmpL x y = 0 ↔ x = y := by
  unfold XT.cmpL
  by_cases h : x = y
  · subst h; simp [Int64.lt_irrefl]
  · by_cases h2 : y < x
    · simp [h, h2]
    · simp [h, h2]
theorem shL_lit : ∀ k : Fin 64, ((Int32.ofNat k.1).toInt64.toUInt64 &&& Int64.toUInt64 63) = UInt64.ofNat k.1 := by decide +kernel
theorem ushrL_bv (y : Int64) {k : Nat} (h : k < 64) : (XT.ushrL y (Int32.ofNat k)).toBitVec = y.toBitVec >>> k := by
  unfold XT.ushrL
  rw [shL_lit ⟨k, h⟩]
  show (y.toUInt64 >>> UInt64.ofNat k).toBitVec = _
  rw [UInt64.toBitVec_shiftRight]
  have : ((UInt64.ofNat k).toBitVec % 64).toNat = k := by
    rw [BitVec.toNat_umod]
    show (UInt64.ofNat k).toNat % 64 = k
    rw [UInt64.toNat_ofNat']
    omega
  rw [BitVec.ushiftRight_eq', this]
  rfl
theorem bitL (y : Int64) {k : Nat} (h : k < 64) : (XT.ushrL y (Int32.ofNat k)) &&& 1 = 0 ↔ tbL y k = false := by
  rw [← Int64.toBitVec_inj, Int64.toBitVec_and, ushrL_bv y h]
  unfold tbL
  constructor
  · intro q
    have := congrArg (fun b => b.getLsbD 0) q
    simpa using this
  · intro q
    apply BitVec.eq_of_getLsbD_eq
    intro i hi
    rw [BitVec.getLsbD_and]
    by_cases e : i = 0
    · subst e; simp [q]
    · have : (1 : Int64).toBitVec.getLsbD i = false := by
        show (1#64).getLsbD i = false
        simp [BitVec.getLsbD_one, e]
      rw [this]; simp
theorem shl_lit : ∀ k : Fin 64, ((((Int32.ofNat k.1).toInt64 &&& 63 : Int64).toBitVec.smod 64)).toNat = k.1 := by decide +kernel
theorem shl_bv (y : Int64) {k : Nat} (h : k < 64) : (y <<< ((Int32.ofNat k).toInt64 &&& 63)).toBitVec = y.toBitVec <<< k := by
  rw [Int64.toBitVec_shiftLeft, BitVec.shiftLeft_eq', shl_lit ⟨k, h⟩]
theorem tbL_shl (y : Int64) {k t : Nat} (h : k < 64) (ht : t < 64) : tbL (y <<< ((Int32.ofNat k).toInt64 &&& 63)) t = (decide (k ≤ t) && tbL y (t - k)) := by
  unfold tbL
  rw [shl_bv y h, BitVec.getLsbD_shiftLeft]
  by_cases q : t < k
  · simp [q, show ¬ k ≤ t by omega]
  · simp [q, ht, show k ≤ t by omega]
theorem tbL_or (x y : Int64) (t : Nat) : tbL (x ||| y) t = (tbL x t || tbL y t) := by unfold tbL; rw [Int64.toBitVec_or, BitVec.getLsbD_or]
theorem tbL_and (x y : Int64) (t : Nat) : tbL (x &&& y) t = (tbL x t && tbL y t) := by unfold tbL; rw [Int64.toBitVec_and, BitVec.getLsbD_and]
theorem tbL_xor (x y : Int64) (t : Nat) : tbL (x ^^^ y) t = (tbL x t ^^ tbL y t) := by unfold tbL; rw [Int64.toBitVec_xor, BitVec.getLsbD_xor]
theorem tbL_neg1 {t : Nat} (h : t < 64) : tbL (-1) t = true := by
  have : ∀ t : Fin 64, tbL (-1) t.1 = true := by decide +kernel
  exact this ⟨t, h⟩
theorem tbL_zero (t : Nat) : tbL 0 t = false := by
  unfold tbL; show (0#64).getLsbD t = false; simp
theorem tbL_one (t : Nat) : tbL 1 t = decide (t = 0) := by
  unfold tbL; show (1#64).getLsbD t = _
  by_cases h : t = 0
  · subst h; rfl
  · simp [BitVec.getLsbD_one, h]
theorem tbL_ext {x y : Int64} (h : ∀ t, t < 64 → tbL x t = tbL y t) : x = y := by
  apply Int64.toBitVec_inj.mp
  apply BitVec.eq_of_getLsbD_eq
  intro t ht
  exact h t ht
/-! bits of ints -/
def tbI (m : Int32) (i : Nat) : Bool := m.toBitVec.getLsbD i
theorem shr_lit : ∀ k : Fin 32, (((Int32.ofNat k.1 &&& 31 : Int32).toBitVec.smod 32)).toNat = k.1 := by decide +kernel
theorem shr_bit (m : Int32) {i : Nat} (h : i < 32) : (m >>> (Int32.ofNat i &&& 31)) &&& 1 = 0 ↔ tbI m i = false := by
  have e : (m >>> (Int32.ofNat i &&& 31)).toBitVec = m.toBitVec.sshiftRight i := by
    rw [Int32.toBitVec_shiftRight, BitVec.sshiftRight_eq', shr_lit ⟨i, h⟩]
  rw [← Int32.toBitVec_inj, Int32.toBitVec_and, e]
  unfold tbI
  have e0 : (m.toBitVec.sshiftRight i).getLsbD 0 = m.toBitVec.getLsbD i := by
    rw [BitVec.getLsbD_sshiftRight]; simp [h]
  constructor
  · intro q
    have := congrArg (fun b => b.getLsbD 0) q
    rw [← e0]
    simpa using this
  · intro q
    apply BitVec.eq_of_getLsbD_eq
    intro t ht
    rw [BitVec.getLsbD_and]
    by_cases z : t = 0
    · subst z; rw [e0, q]; simp
    · have : (1 : Int32).toBitVec.getLsbD t = false := by
        show (1#32).getLsbD t = false
        simp [BitVec.getLsbD_one, z]
      rw [this]; simp
theorem tbI_bit {k i : Nat} (hk : k < 32) (hi : i < 32) : tbI ((1 : Int32) <<< (Int32.ofNat k &&& 31)) i = decide (i = k) := by
  have : ∀ (k i : Fin 32), tbI ((1 : Int32) <<< (Int32.ofNat k.1 &&& 31)) i.1 = decide (i.1 = k.1) := by decide +kernel
  exact this ⟨k, hk⟩ ⟨i, hi⟩
theorem tbI_or (x y : Int32) (t : Nat) : tbI (x ||| y) t = (tbI x t || tbI y t) := by unfold tbI; rw [Int32.toBitVec_or, BitVec.getLsbD_or]
theorem tbI_and (x y : Int32) (t : Nat) : tbI (x &&& y) t = (tbI x t && tbI y t) := by unfold tbI; rw [Int32.toBitVec_and, BitVec.getLsbD_and]
theorem tbI_xor (x y : Int32) (t : Nat) : tbI (x ^^^ y) t = (tbI x t ^^ tbI y t) := by unfold tbI; rw [Int32.toBitVec_xor, BitVec.getLsbD_xor]
theorem tbI_neg1 {t : Nat} (h : t < 32) : tbI (-1) t = true := by
  have : ∀ t : Fin 32, tbI (-1) t.1 = true := by decide +kernel
  exact this ⟨t, h⟩
theorem tbI_zero (t : Nat) : tbI 0 t = false := by
  unfold tbI; show (0#32).getLsbD t = false; simp
theorem tbI_ext {x y : Int32} (h : ∀ t, t < 32 → tbI x t = tbI y t) : x = y := by
  apply Int32.toBitVec_inj.mp
  apply BitVec.eq_of_getLsbD_eq
  intro t ht
  exact h t ht
theorem tbI_ne0 {x : Int32} (h : x ≠ 0) : ∃ t, t < 32 ∧ tbI x t = true := by
  apply Classical.byContradiction
  intro q
  apply h
  refine tbI_ext fun t ht => ?_
  rw [tbI_zero]
  cases e : tbI x t with
  | false => rfl
  | true => exact absurd ⟨t, ht, e⟩ q
/-! ConservativeBiY: small methods -/
def tb (m i : Int32) : Int32 := (m >>> (i &&& 31)) &&& 1
theorem p_low_loop (k : Nat) : ∀ (fuel : Nat) (m i : Int32) (σ : Sg), i.toInt + k = 16 → 0 ≤ i.toInt → k < fuel →
    ∃ r, c_lowestBit_2 fuel m i σ = some (r, σ) ∧ ((r = -1 ∧ ∀ j : Int32, i.toInt ≤ j.toInt → j.toInt < 16 → tb m j = 0) ∨ (i.toInt ≤ r.toInt ∧ r.toInt < 16 ∧ tb m r ≠ 0 ∧ ∀ j : Int32, i.toInt ≤ j.toInt → j.toInt < r.toInt → tb m j = 0)) := by
  have e16 : (16 : Int32).toInt = 16 := rfl
  induction k with
  | zero =>
    intro fuel m i σ h1 h2 h3
    obtain ⟨f, rfl⟩ : ∃ f, fuel = f + 1 := ⟨fuel - 1, by omega⟩
    rw [c_lowestBit_2, if_neg (by rw [ti_lt]; omega)]
    exact ⟨-1, rfl, Or.inl ⟨rfl, fun j a b => by omega⟩⟩
  | succ k ih =>
    intro fuel m i σ h1 h2 h3
    obtain ⟨f, rfl⟩ : ∃ f, fuel = f + 1 := ⟨fuel - 1, by omega⟩
    rw [c_lowestBit_2, if_pos (by rw [ti_lt]; omega)]
    have e1 : (i + 1).toInt = i.toInt + 1 := ti_add1 (by omega)
    by_cases hb : (m >>> (i &&& 31)) &&& 1 = 0
    · rw [if_pos hb]
      have hone : ∀ j : Int32, j.toInt = i.toInt → tb m j = 0 := fun j e => by rw [ti_eq.mpr e]; exact hb
      obtain ⟨r, q, h⟩ := ih f m (i + 1) σ (by omega) (by omega) (by omega)
      refine ⟨r, q, ?_⟩
      rcases h with ⟨rfl, h⟩ | ⟨a, b, c, d⟩
      · refine Or.inl ⟨rfl, fun j a b => ?_⟩
        by_cases e : j.toInt = i.toInt
        · exact hone j e
        · exact h j (by omega) b
      · refine Or.inr ⟨by omega, b, c, fun j a' b' => ?_⟩
        by_cases e : j.toInt = i.toInt
        · exact hone j e
        · exact d j (by omega) b'
    · rw [if_neg hb]
      exact ⟨i, rfl, Or.inr ⟨by omega, by omega, hb, fun j a b => by omega⟩⟩
theorem p_low (m : Int32) (σ : Sg) : ∃ r, c_lowestBit m σ = some (r, σ) ∧ ((r = -1 ∧ ∀ j : Int32, 0 ≤ j.toInt → j.toInt < 16 → tb m j = 0) ∨ (0 ≤ r.toInt ∧ r.toInt < 16 ∧ tb m r ≠ 0 ∧ ∀ j : Int32, 0 ≤ j.toInt → j.toInt < r.toInt → tb m j = 0)) :=
  p_low_loop 16 400 m 0 σ rfl (by decide) (by decide)
def ciF (n : Int32) : Int32 := if 1 < n then (if 2 < n then (if 4 < n then (if 8 < n then 4 else 3) else 2) else 1) else 0
theorem p_ci (n : Int32) (σ : Sg) : c_classIndexFor n σ = some (ciF n, σ) := by
  unfold c_classIndexFor ciF
  have e0 : ((1 : Int32) <<< ((0 : Int32) &&& 31)) = 1 := by decide
  have e1 : ((1 : Int32) <<< ((0 + 1 : Int32) &&& 31)) = 2 := by decide
  have e2 : ((1 : Int32) <<< ((0 + 1 + 1 : Int32) &&& 31)) = 4 := by decide
  have e3 : ((1 : Int32) <<< ((0 + 1 + 1 + 1 : Int32) &&& 31)) = 8 := by decide
  have e4 : ((1 : Int32) <<< ((0 + 1 + 1 + 1 + 1 : Int32) &&& 31)) = 16 := by decide
  rw [c_classIndexFor_2, if_pos (by decide), e0]
  split
  · rw [c_classIndexFor_2, if_pos (by decide), e1]
    split
    · rw [c_classIndexFor_2, if_pos (by decide), e2]
      split
      · rw [c_classIndexFor_2, if_pos (by decide), e3]
        split
        · rw [c_classIndexFor_2, if_pos (by decide), e4]
          split
          · rw [c_classIndexFor_2, if_neg (by decide)]
          · rfl
        · rfl
      · rfl
    · rfl
  · rfl
/-- words cleared: only the heap's cells change -/
theorem p_cw_loop (k : Nat) : ∀ (fuel : Nat) (sz b i : Int32) (σ : Sg), i.toInt + k = 16 → 0 ≤ i.toInt → k < fuel →
    ∃ σ', c_clearWords_9 fuel sz b i σ = some σ' ∧ (∀ kk j, kk ≠ 2 → gi σ' kk j = gi σ kk j) ∧ (∀ j, gi σ' 2 j = gi σ 2 j ∨ gi σ' 2 j = 0) ∧
      (0 ≤ b.toInt → b.toInt ≤ 240 → ∀ t : Int32, i.toInt ≤ t.toInt → t.toInt < sz.toInt → t.toInt < 16 → gi σ' 2 (nx (b + t)) = 0) := by
  have e16 : (16 : Int32).toInt = 16 := rfl
  induction k with
  | zero =>
    intro fuel sz b i σ h1 h2 h3
    obtain ⟨f, rfl⟩ : ∃ f, fuel = f + 1 := ⟨fuel - 1, by omega⟩
    rw [c_clearWords_9]
    refine ⟨σ, ?_, fun _ _ _ => rfl, fun _ => Or.inl rfl, fun _ _ t a b c => by omega⟩
    split
    · rw [if_neg (by rw [ti_lt]; omega)]
    · rfl
  | succ k ih =>
    intro fuel sz b i σ h1 h2 h3
    obtain ⟨f, rfl⟩ : ∃ f, fuel = f + 1 := ⟨fuel - 1, by omega⟩
    have e1 : (i + 1).toInt = i.toInt + 1 := ti_add1 (by omega)
    rw [c_clearWords_9]
    by_cases hs : i < sz
    · rw [if_pos hs, if_pos (by rw [ti_lt]; omega)]
      unfold c_clearWords_49
      obtain ⟨σ1, q1, r1, r2, r3⟩ := ih f sz b (i + 1) σ (by omega) (by omega) (by omega)
      obtain ⟨σ2, p1, p2, p3, p4⟩ := ih f sz b (i + 1) (si σ 2 (nx (b + i)) 0) (by omega) (by omega) (by omega)
      have e0 : (0 : Int32).toInt = 0 := rfl
      have e256 : (256 : Int32).toInt = 256 := rfl
      have hbi : 0 ≤ b.toInt → b.toInt ≤ 240 → (b + i).toInt = b.toInt + i.toInt := fun a c => ti_add (by omega) (by omega)
      by_cases c1 : b + i < 0
      · rw [if_pos c1]
        refine ⟨σ1, q1, r1, r2, fun a c t d1 d2 d3 => ?_⟩
        have := hbi a c
        rw [ti_lt] at c1
        omega
      · rw [if_neg c1]
        by_cases c2 : b + i < 256
        · rw [ti_lt] at c1 c2
          rw [if_pos (by rw [ti_lt]; exact c2), if_pos (inbT (by omega) (show (b + i).toInt < ((256 : Nat) : Int) by omega))]
          refine ⟨σ2, p1, fun kk j ne => by rw [p2 kk j ne]; simp [gi_si, ne], fun j => ?_, fun a c t d1 d2 d3 => ?_⟩
          · rcases p3 j with h | h
            · rw [h]
              by_cases e : j = nx (b + i)
              · right; simp [gi_si, e]
              · left; simp [gi_si, e]
            · exact Or.inr h
          · by_cases e : t.toInt = i.toInt
            · rw [ti_eq.mpr e]
              rcases p3 (nx (b + i)) with h | h
              · rw [h]; simp [gi_si]
              · exact h
            · exact p4 a c t (by omega) d2 d3
        · rw [if_neg c2]
          refine ⟨σ1, q1, r1, r2, fun a c t d1 d2 d3 => ?_⟩
          have := hbi a c
          rw [ti_lt] at c2
          omega
    · rw [if_neg hs]
      refine ⟨σ, rfl, fun _ _ _ => rfl, fun _ => Or.inl rfl, fun _ _ t a b c => ?_⟩
      rw [ti_lt] at hs
      omega
theorem p_cw (st sz : Int32) (σ : Sg) : ∃ σ', c_clearWords st sz σ = some σ' ∧ (∀ kk j, kk ≠ 2 → gi σ' kk j = gi σ kk j) ∧ (∀ j, gi σ' 2 j = gi σ 2 j ∨ gi σ' 2 j = 0) ∧
      (0 ≤ (st - 4096).toInt → (st - 4096).toInt ≤ 240 → ∀ t : Int32, 0 ≤ t.toInt → t.toInt < sz.toInt → t.toInt < 16 → gi σ' 2 (nx (st - 4096 + t)) = 0) :=
  p_cw_loop 16 400 sz (st - 4096) 0 σ rfl (by decide) (by decide)
/-- the lists are brought up to date: nothing else changes -/
def RfK (σ σ' : Sg) : Prop := (∀ kk j, kk ≠ 0 → kk ≠ 8 → gi σ' kk j = gi σ kk j) ∧ ∀ j, j ≠ 13 → gi σ' 0 j = gi σ 0 j
theorem p_rf_loop (k : Nat) : ∀ (fuel : Nat) (p bit i : Int32) (σ : Sg), i.toInt + k = 5 → 0 ≤ i.toInt → k < fuel → 0 ≤ p.toInt → p.toInt < 16 →
    ∃ σ', c_refreshPage_17 fuel p bit i σ = some σ' ∧ RfK σ σ' := by
  have e5 : (5 : Int32).toInt = 5 := rfl
  have e4 : (4 : Int32).toInt = 4 := rfl
  have e0 : (0 : Int32).toInt = 0 := rfl
  induction k with
  | zero =>
    intro fuel p bit i σ h1 h2 h3 hp1 hp2
    obtain ⟨f, rfl⟩ : ∃ f, fuel = f + 1 := ⟨fuel - 1, by omega⟩
    have hip : inb p 16 = true := inbT hp1 hp2
    rw [c_refreshPage_17, if_neg (by rw [ti_lt]; omega)]
    simp only [hip, if_true]
    split
    · split
      · exact ⟨_, rfl, fun kk j a b => by simp [gi_si, a], fun j a => by simp [gi_si, a]⟩
      · split
        · exact ⟨_, rfl, fun kk j a b => by simp [gi_si, a], fun j a => by simp [gi_si, a]⟩
        · rename_i c1
          split
          · exact ⟨_, rfl, fun kk j a b => by simp [gi_si, a], fun j a => by simp [gi_si, a]⟩
          · rename_i c2
            rw [ti_lt] at c1 c2
            have hin : inb (gi σ 4 (nx p)) 5 = true := inbT (by omega) (show (gi σ 4 (nx p)).toInt < ((5 : Nat) : Int) by omega)
            have hs : ∃ z, c_slotMaskFor (gi σ 4 (nx p)) (si σ 0 13 ((gi σ 0 13) &&& (bit ^^^ (-1 : Int32)))) = some (z, si σ 0 13 ((gi σ 0 13) &&& (bit ^^^ (-1 : Int32)))) := by
              unfold c_slotMaskFor
              split
              · exact ⟨_, rfl⟩
              · split <;> exact ⟨_, rfl⟩
            obtain ⟨z, hz⟩ := hs
            rw [hz]
            simp only [Option.bind_some, hin, if_true]
            split
            · exact ⟨_, rfl, fun kk j a b => by simp [gi_si, a], fun j a => by simp [gi_si, a]⟩
            · exact ⟨_, rfl, fun kk j a b => by simp [gi_si, a, b], fun j a => by simp [gi_si, a]⟩
    · exact ⟨_, rfl, fun kk j a b => by simp [gi_si, a], fun j a => by simp [gi_si, a]⟩
  | succ k ih =>
    intro fuel p bit i σ h1 h2 h3 hp1 hp2
    obtain ⟨f, rfl⟩ : ∃ f, fuel = f + 1 := ⟨fuel - 1, by omega⟩
    have e1 : (i + 1).toInt = i.toInt + 1 := ti_add1 (by omega)
    rw [c_refreshPage_17, if_pos (by rw [ti_lt]; omega), if_pos (inbT h2 (show i.toInt < ((5 : Nat) : Int) by omega))]
    obtain ⟨σ', q, a, b⟩ := ih f p bit (i + 1) (si σ 8 (nx i) ((gi σ 8 (nx i)) &&& (bit ^^^ (-1 : Int32)))) (by omega) (by omega) (by omega) hp1 hp2
    exact ⟨σ', q, fun kk j c d => by rw [a kk j c d]; simp [gi_si, d], fun j c => by rw [b j c]; simp [gi_si]⟩
theorem p_rf (p : Int32) (σ : Sg) (h1 : 0 ≤ p.toInt) (h2 : p.toInt < 16) : ∃ σ', c_refreshPage p σ = some σ' ∧ RfK σ σ' := by
  have e16 : (16 : Int32).toInt = 16 := rfl
  have e0 : (0 : Int32).toInt = 0 := rfl
  unfold c_refreshPage
  rw [if_neg (by rw [ti_lt]; omega), if_pos (by rw [ti_lt]; omega)]
  exact p_rf_loop 5 400 p _ 0 σ rfl (by decide) (by decide) h1 h2
def clp (x lo hi : Int32) : Int32 := if hi < (if x < lo then lo else x) then hi else (if x < lo then lo else x)
theorem clp_bd {x lo hi : Int32} (h : lo.toInt ≤ hi.toInt) : lo.toInt ≤ (clp x lo hi).toInt ∧ (clp x lo hi).toInt ≤ hi.toInt := by
  unfold clp
  by_cases h1 : x < lo
  · simp only [h1, if_true]
    split
    · rename_i h2; rw [ti_lt] at h2; omega
    · omega
  · simp only [h1, if_false]
    rw [ti_lt] at h1
    split
    · omega
    · rename_i h2; rw [ti_lt] at h2; omega
/-- a new heap -/
def FreshH (σ : Sg) (P R : Int32) : Prop := gi σ 0 10 = P ∧ gi σ 0 11 = R ∧ gi σ 0 12 = 0 ∧ gi σ 0 13 = (1 : Int32) <<< (P &&& 31) - 1 ∧ gi σ 0 14 = 0 ∧ gi σ 0 15 = 0 ∧ ∀ k j, k ≠ 0 → gi σ k j = 0
theorem p_init (a b : Int32) : ∃ σ, c_init a b = some σ ∧ FreshH σ (clp a 4 16) (clp b 1 32) := by
  have k3 : ∀ (P R : Int32), ∃ σ, c_init_131 R (si zs 0 10 P) = some σ ∧ FreshH σ P R := by
    intro P R
    unfold c_init_131 c_validPageMask
    simp only [Option.bind_some]
    refine ⟨_, rfl, ?_⟩
    refine ⟨by simp [gi_si], by simp [gi_si], by simp [gi_si], by simp [gi_si], by simp [gi_si], by simp [gi_si], fun k j h => by simp [gi_si, h, gi_zs]⟩
  have k2 : ∀ P : Int32, ∃ σ, c_init_103 b P zs = some σ ∧ FreshH σ P (clp b 1 32) := by
    intro P
    unfold c_init_103 c_init_120 clp
    by_cases h1 : b < 1
    · simp only [h1, if_true]
      split <;> exact k3 P _
    · simp only [h1, if_false]
      split <;> exact k3 P _
  unfold c_init c_init_94 clp
  by_cases h1 : a < 4
  · simp only [h1, if_true]
    split <;> exact k2 _
  · simp only [h1, if_false]
    split <;> exact k2 _
/-- the first object of a new heap -/
theorem p_place (p k : Int32) (σ : Sg) (h1 : 0 ≤ p.toInt) (h2 : p.toInt < 16) : ∃ σ', c_placeObject p k σ = some (4096 + (p <<< ((4 : Int32) &&& 31)) + (k <<< ((gi σ 4 (nx p)) &&& 31)), σ') ∧
    (∀ kk j, kk ≠ 0 → kk ≠ 2 → kk ≠ 8 → gi σ' kk j = gi (si (si σ 5 (nx p) ((gi σ 5 (nx p)) ||| ((1 : Int32) <<< (k &&& 31)))) 6 (nx p) ((gi σ 6 (nx p)) + 1)) kk j) ∧
    (∀ j, j ≠ 13 → j ≠ 15 → gi σ' 0 j = gi σ 0 j) ∧ gi σ' 0 15 = gi σ 0 15 + 1 ∧ (∀ j, gi σ' 2 j = gi σ 2 j ∨ gi σ' 2 j = 0) := by
  have hip : inb p 16 = true := inbT h1 h2
  unfold c_placeObject c_slotStart
  simp only [hip, if_true, Option.bind_some]
  have e4 : gi (si (si (si σ 5 (nx p) ((gi σ 5 (nx p)) ||| ((1 : Int32) <<< (k &&& 31)))) 6 (nx p) ((gi σ 6 (nx p)) + (1 : Int32))) 0 15 ((gi σ 0 15) + (1 : Int32))) 4 (nx p) = gi σ 4 (nx p) := by simp [gi_si]
  obtain ⟨σ1, q1, a1, a2, -⟩ := p_cw (4096 + (p <<< ((4 : Int32) &&& 31)) + (k <<< ((gi σ 4 (nx p)) &&& 31))) (gi (si (si (si σ 5 (nx p) ((gi σ 5 (nx p)) ||| ((1 : Int32) <<< (k &&& 31)))) 6 (nx p) ((gi σ 6 (nx p)) + (1 : Int32))) 0 15 ((gi σ 0 15) + (1 : Int32))) 3 (nx p)) (si (si (si σ 5 (nx p) ((gi σ 5 (nx p)) ||| ((1 : Int32) <<< (k &&& 31)))) 6 (nx p) ((gi σ 6 (nx p)) + (1 : Int32))) 0 15 ((gi σ 0 15) + (1 : Int32)))
  obtain ⟨σ2, q2, b1, b2⟩ := p_rf p σ1 h1 h2
  rw [e4, q1, Option.bind_some, q2, Option.bind_some]
  refine ⟨σ2, rfl, fun kk j c1 c2 c3 => ?_, fun j c1 c2 => ?_, ?_, fun j => ?_⟩
  · rw [b1 kk j c1 c3, a1 kk j c2]; simp [gi_si, c1]
  · rw [b2 j c1, a1 0 j (by decide)]; simp [gi_si, c2]
  · rw [b2 15 (by decide), a1 0 15 (by decide)]; simp [gi_si]
  · rw [b1 2 j (by decide) (by decide)]
    rcases a2 j with h | h
    · left; rw [h]; simp [gi_si]
    · exact Or.inr h
theorem ciF_bd (n : Int32) : 0 ≤ (ciF n).toInt ∧ (ciF n).toInt ≤ 4 := by
  unfold ciF
  split
  · split
    · split
      · split <;> decide
      · decide
    · decide
  · decide
theorem avail_ok (P : Int32) (h1 : 4 ≤ P.toInt) (h2 : P.toInt ≤ 16) : tb (((1 : Int32) <<< (P &&& 31) - 1) &&& (0 ^^^ -1) &&& ((1 : Int32) <<< (P &&& 31) - 1)) 0 ≠ 0 := by
  have key : ∀ n : Fin 17, 4 ≤ n.1 → tb (((1 : Int32) <<< ((Int32.ofNat n.1) &&& 31) - 1) &&& (0 ^^^ -1) &&& ((1 : Int32) <<< ((Int32.ofNat n.1) &&& 31) - 1)) 0 ≠ 0 := by decide
  have e : P = Int32.ofNat P.toInt.toNat := by
    rw [ti_eq, Int32.toInt_ofNat_of_lt (by omega)]; omega
  rw [e]
  exact key ⟨P.toInt.toNat, by omega⟩ (by show 4 ≤ P.toInt.toNat; omega)
theorem p_alloc0 {σ : Sg} {P R n : Int32} (F : FreshH σ P R) (hP1 : 4 ≤ P.toInt) (hP2 : P.toInt ≤ 16) (h1 : 1 ≤ n.toInt) (h2 : n.toInt ≤ 16) : ∃ σ', c_alloc n σ = some (4096, σ') ∧
    (∀ kk j, kk ≠ 0 → kk ≠ 2 → kk ≠ 8 → gi σ' kk j = gi (si (si (si (si σ 3 0 ((1 : Int32) <<< (ciF n &&& 31))) 4 0 (ciF n)) 5 0 1) 6 0 1) kk j) ∧ (∀ j, j ≠ 13 → j ≠ 15 → gi σ' 0 j = gi σ 0 j) ∧ gi σ' 0 15 = 1 ∧ ∀ j, gi σ' 2 j = 0 := by
  obtain ⟨f10, f11, f12, f13, f14, f15, fz⟩ := F
  have e1 : (1 : Int32).toInt = 1 := rfl
  have e16 : (16 : Int32).toInt = 16 := rfl
  have e0 : (0 : Int32).toInt = 0 := rfl
  have e4 : (4 : Int32).toInt = 4 := rfl
  have cb := ciF_bd n
  unfold c_alloc
  rw [if_neg (by rw [ti_lt]; omega), if_neg (by rw [ti_lt]; omega), p_ci, Option.bind_some]
  have hA : c_allocInClassPage (ciF n) σ = some (0, σ) := by
    unfold c_allocInClassPage
    rw [if_neg (by rw [ti_lt]; omega), if_neg (by rw [ti_lt]; omega), if_pos (inbT (by omega) (show (ciF n).toInt < ((5 : Nat) : Int) by omega)), fz 8 _ (by decide)]
    obtain ⟨r, q, h⟩ := p_low 0 σ
    rw [q, Option.bind_some]
    rcases h with ⟨rfl, -⟩ | ⟨a, b, c, -⟩
    · rfl
    · exact absurd (by unfold tb; simp) c
  rw [hA, Option.bind_some, if_pos rfl]
  unfold c_allocInFreshPage c_validPageMask
  simp only [Option.bind_some]
  rw [if_neg (by rw [ti_lt]; omega), if_neg (by rw [ti_lt]; omega), f10, f13, f14]
  obtain ⟨r, q, h⟩ := p_low (((1 : Int32) <<< (P &&& 31) - 1) &&& (0 ^^^ -1) &&& ((1 : Int32) <<< (P &&& 31) - 1)) σ
  have hr : r = 0 := by
    have ok := avail_ok P hP1 hP2
    rcases h with ⟨rfl, h⟩ | ⟨a, b, c, d⟩
    · exact absurd (h 0 (by decide) (by decide)) ok
    · apply Classical.byContradiction
      intro ne
      exact ok (d 0 (by decide) (by
        have : r.toInt ≠ 0 := fun e => ne (ti_eq.mpr e)
        omega))
  subst hr
  rw [q, Option.bind_some]
  rw [if_neg (show ¬ (0 : Int32) < 0 by decide), if_pos (by rw [ti_lt]; show (0 : Int32).toInt < (gi σ 0 10).toInt; rw [f10]; omega), if_pos (show inb (0 : Int32) 16 = true by decide)]
  obtain ⟨σ', q', g1, g2, g3, g4⟩ := p_place 0 0 (si (si (si (si σ 3 (nx 0) ((1 : Int32) <<< (ciF n &&& 31))) 4 (nx 0) (ciF n)) 5 (nx 0) (0 : Int32)) 6 (nx 0) (0 : Int32)) (by decide) (by decide)
  rw [q', Option.bind_some]
  have en : nx 0 = 0 := rfl
  refine ⟨σ', ?_, fun kk j c1 c2 c3 => ?_, fun j c1 c2 => ?_, ?_, fun j => ?_⟩
  · congr 2
    have : ∀ z : Int32, (0 : Int32) <<< z = 0 := fun z => by
      apply Int32.toBitVec_inj.mp
      rw [Int32.toBitVec_shiftLeft]; simp
    rw [this, this]; rfl
  · rw [g1 kk j c1 c2 c3]
    simp only [gi_si, en]
    by_cases k5 : kk = 5
    · subst k5; by_cases j0 : j = 0 <;> simp [j0]
    · by_cases k6 : kk = 6
      · subst k6; by_cases j0 : j = 0 <;> simp [j0]
      · simp [k5, k6]
  · rw [g2 j c1 c2]; simp [gi_si]
  · rw [g3]; simp [gi_si, f15]
  · rcases g4 j with h | h
    · rw [h]; simp [gi_si, fz 2 j (by decide)]
    · exact h
/-! ConservativeBiY: where an address lies -/
def offN (a : Int32) : Nat := (a.toInt - 4096).toNat
def pgN (a : Int32) : Nat := offN a / 16
def wiN (a : Int32) : Nat := offN a % 16
def shN (σ : Sg) (p : Nat) : Nat := (gi σ 4 p).toInt.toNat
def slN (σ : Sg) (a : Int32) : Nat := wiN a / 2 ^ shN σ (pgN a)
def inH (σ : Sg) (a : Int32) : Bool := decide (4096 ≤ a.toInt ∧ a.toInt < 4096 + 16 * (gi σ 0 10).toInt)
def lvB (σ : Sg) (p k : Nat) : Bool := decide (tb (gi σ 5 p) (Int32.ofNat k) ≠ 0)
def inO (σ : Sg) (a : Int32) : Bool := inH σ a && decide (gi σ 3 (pgN a) ≠ 0) && lvB σ (pgN a) (slN σ a)
def stN (σ : Sg) (a : Int32) : Nat := 4096 + 16 * pgN a + slN σ a * 2 ^ shN σ (pgN a)
/-- the figures of the heap are in their bounds -/
def Okh (σ : Sg) : Prop := 4 ≤ (gi σ 0 10).toInt ∧ (gi σ 0 10).toInt ≤ 16 ∧ ∀ p, gi σ 3 p ≠ 0 → 0 ≤ (gi σ 4 p).toInt ∧ (gi σ 4 p).toInt ≤ 4
theorem p_pageOf {σ : Sg} (a : Int32) (H : Okh σ) : c_pageOf a σ = some (if inH σ a = true then Int32.ofNat (pgN a) else -1, σ) := by
  obtain ⟨H1, H2, -⟩ := H
  have e : (4096 : Int32).toInt = 4096 := rfl
  have e4 : (4 : Int32).toInt = ((4 : Nat) : Int) := rfl
  have ahi := ti_hi a
  have hsh : ((gi σ 0 10) <<< ((4 : Int32) &&& 31)).toInt = (gi σ 0 10).toInt * ((2 ^ 4 : Nat) : Int) := ti_shl e4 (by decide) (by omega) (by omega)
  unfold c_pageOf
  by_cases h1 : a < 4096
  · rw [if_pos h1]
    rw [ti_lt] at h1
    rw [if_neg (by simp only [inH, decide_eq_true_eq]; omega)]
  · rw [if_neg h1]
    rw [ti_lt] at h1
    have hs : (a - 4096).toInt = a.toInt - 4096 := by rw [ti_sub (by omega) (by omega), e]
    by_cases h2 : a - 4096 < (gi σ 0 10) <<< ((4 : Int32) &&& 31)
    · rw [if_pos h2]
      rw [ti_lt, hs, hsh] at h2
      rw [if_pos (by simp only [inH, decide_eq_true_eq]; omega)]
      congr 2
      refine eq_ofNat ?_
      rw [ti_shr e4 (by decide), hs]
      unfold pgN offN
      omega
    · rw [if_neg h2]
      rw [ti_lt, hs, hsh] at h2
      rw [if_neg (by simp only [inH, decide_eq_true_eq]; omega)]
theorem inH_bd {σ : Sg} {a : Int32} (H : Okh σ) (h : inH σ a = true) : pgN a < 16 ∧ (pgN a : Int) < (gi σ 0 10).toInt ∧ a.toInt = 4096 + 16 * (pgN a : Int) + wiN a ∧ wiN a < 16 := by
  obtain ⟨H1, H2, -⟩ := H
  simp only [inH, decide_eq_true_eq] at h
  unfold pgN wiN offN
  omega
theorem p_find {σ : Sg} (a : Int32) (H : Okh σ) : c_findStart a σ = some (if inO σ a = true then Int32.ofNat (stN σ a) else 0, σ) := by
  unfold c_findStart
  rw [p_pageOf a H, Option.bind_some]
  by_cases h : inH σ a = true
  · obtain ⟨b1, b2, b3, b4⟩ := inH_bd H h
    have hp : (Int32.ofNat (pgN a)).toInt = (pgN a : Int) := ti_ofNat (by omega)
    have e0 : (0 : Int32).toInt = 0 := rfl
    have e16 : (16 : Int32).toInt = 16 := rfl
    have e15 : (15 : Int32).toInt = 15 := rfl
    have e4 : (4 : Int32).toInt = ((4 : Nat) : Int) := rfl
    have e : (4096 : Int32).toInt = 4096 := rfl
    have hpn : nx (Int32.ofNat (pgN a)) = pgN a := nx_ofNat (by omega)
    have hin : inb (Int32.ofNat (pgN a)) 16 = true := inbT (by omega) (by omega)
    simp only [h, if_true]
    rw [if_neg (by rw [ti_lt]; omega), if_pos hin, hpn]
    by_cases hc : gi σ 3 (pgN a) = 0
    · rw [if_pos hc, if_neg (by simp [inO, hc])]
    · rw [if_neg hc]
      obtain ⟨s1, s2⟩ := H.2.2 _ hc
      have hsN : (gi σ 4 (pgN a)).toInt = (shN σ (pgN a) : Int) := by unfold shN; omega
      have hs4 : shN σ (pgN a) ≤ 4 := by omega
      have hsub : (a - 4096).toInt = a.toInt - 4096 := by rw [ti_sub (by omega) (by have := ti_hi a; omega), e]
      have hshl : ((Int32.ofNat (pgN a)) <<< ((4 : Int32) &&& 31)).toInt = (pgN a : Int) * ((2 ^ 4 : Nat) : Int) := by rw [ti_shl e4 (by decide) (by omega) (by omega), hp]
      have hwi : (a - 4096 - (Int32.ofNat (pgN a)) <<< ((4 : Int32) &&& 31)).toInt = (wiN a : Int) := by rw [ti_sub (by omega) (by omega)]; omega
      have hdiv : slN σ a ≤ wiN a := Nat.div_le_self _ _
      have hslot : (a - 4096 - (Int32.ofNat (pgN a)) <<< ((4 : Int32) &&& 31)) >>> ((gi σ 4 (pgN a)) &&& 31) = Int32.ofNat (slN σ a) := by
        refine eq_ofNat ?_
        rw [ti_shr hsN (by omega), hwi]
        unfold slN
        exact (Int.natCast_ediv _ _).symm
      have hso : c_slotOf a (Int32.ofNat (pgN a)) σ = some (Int32.ofNat (slN σ a), σ) := by
        unfold c_slotOf
        rw [if_neg (by rw [ti_lt, hwi]; omega), if_neg (by rw [ti_lt, hwi]; omega), if_pos hin, hpn, hslot]
      have hsl : (Int32.ofNat (slN σ a)).toInt = (slN σ a : Int) := ti_ofNat (by omega)
      have hlive : c_slotLive (Int32.ofNat (pgN a)) (Int32.ofNat (slN σ a)) σ = some (if lvB σ (pgN a) (slN σ a) = true then 1 else 0, σ) := by
        unfold c_slotLive
        rw [if_neg (by rw [ti_lt]; omega), if_pos (by rw [ti_lt]; omega), if_neg (by rw [ti_lt]; omega), if_pos (by rw [ti_lt]; omega), if_pos hin, hpn]
        unfold lvB
        by_cases q : tb (gi σ 5 (pgN a)) (Int32.ofNat (slN σ a)) = 0
        · rw [if_pos (by exact q)]; simp [q]
        · rw [if_neg (by exact q)]; simp [q]
      rw [hso, Option.bind_some, hlive, Option.bind_some]
      have hpow : 2 ^ shN σ (pgN a) ≤ 16 := by
        have : shN σ (pgN a) ≤ 4 := hs4
        calc 2 ^ shN σ (pgN a) ≤ 2 ^ 4 := Nat.pow_le_pow_right (by decide) this
          _ = 16 := by decide
      have hmul : slN σ a * 2 ^ shN σ (pgN a) ≤ wiN a := by unfold slN; exact Nat.div_mul_le_self _ _
      by_cases hl : lvB σ (pgN a) (slN σ a) = true
      · simp only [hl, if_true]
        rw [if_neg (by decide)]
        unfold c_slotStart
        rw [if_pos hin, hpn, Option.bind_some, if_pos (by simp [inO, h, hc, hl])]
        congr 2
        refine eq_ofNat ?_
        have hk : ((Int32.ofNat (slN σ a)) <<< ((gi σ 4 (pgN a)) &&& 31)).toInt = ((slN σ a * 2 ^ shN σ (pgN a) : Nat) : Int) := by
          rw [ti_shl hsN (by omega) (by rw [hsl, ← Int.natCast_mul]; omega) (by rw [hsl, ← Int.natCast_mul]; omega), hsl, Int.natCast_mul]
        have h1 : ((4096 : Int32) + (Int32.ofNat (pgN a)) <<< ((4 : Int32) &&& 31)).toInt = 4096 + 16 * (pgN a : Int) := by rw [ti_add (by omega) (by omega), hshl, e]; omega
        rw [ti_add (by omega) (by omega), h1, hk]
        unfold stN
        omega
      · simp only [hl, if_false, Bool.false_eq_true]
        rw [if_pos trivial, if_neg (by simp [inO, hl])]
  · have h' : inH σ a = false := by simpa using h
    simp only [h', Bool.false_eq_true, if_false]
    rw [if_pos (by decide), if_neg (by simp [inO, h'])]
/-! counting -/
def cntF (P : Nat → Bool) : Nat → Nat
  | 0 => 0
  | n + 1 => cntF P n + (if P n = true then 1 else 0)
theorem cntF_le (P : Nat → Bool) (n : Nat) : cntF P n ≤ n := by
  induction n with
  | zero => exact Nat.le_refl _
  | succ n ih => unfold cntF; split <;> omega
theorem cntF_congr {P Q : Nat → Bool} {n : Nat} (h : ∀ i, i < n → P i = Q i) : cntF P n = cntF Q n := by
  induction n with
  | zero => rfl
  | succ n ih => unfold cntF; rw [ih fun i hi => h i (by omega), h n (by omega)]
theorem cntF_mono {P Q : Nat → Bool} {n : Nat} (h : ∀ i, i < n → P i = true → Q i = true) : cntF P n ≤ cntF Q n := by
  induction n with
  | zero => exact Nat.le_refl _
  | succ n ih =>
    unfold cntF
    have := ih fun i hi => h i (by omega)
    by_cases c : P n = true
    · rw [if_pos c, if_pos (h n (by omega) c)]; omega
    · rw [if_neg c]; omega
theorem cntF_pos {P : Nat → Bool} {n k : Nat} (hk : k < n) (h : P k = true) : 1 ≤ cntF P n := by
  induction n with
  | zero => omega
  | succ n ih =>
    unfold cntF
    by_cases c : k = n
    · subst c; rw [if_pos h]; omega
    · have := ih (by omega)
      omega
theorem cntF_set {P Q : Nat → Bool} {n k : Nat} (hk : k < n) (hP : P k = false) (hQ : Q k = true) (ho : ∀ i, i ≠ k → Q i = P i) : cntF Q n = cntF P n + 1 := by
  induction n with
  | zero => omega
  | succ n ih =>
    unfold cntF
    by_cases c : k = n
    · subst c
      rw [cntF_congr (P := Q) (Q := P) (fun i hi => ho i (by omega)), if_pos hQ, hP, if_neg (by decide)]
    · rw [ih (by omega), ho n (by omega)]; omega
theorem cntF_lo {P : Nat → Bool} {n m : Nat} (h : ∀ i, m ≤ i → i < n → P i = false) : cntF P n ≤ m := by
  induction n with
  | zero => exact Nat.zero_le _
  | succ n ih =>
    unfold cntF
    have := ih fun i h1 h2 => h i h1 (by omega)
    by_cases c : m ≤ n
    · rw [h n c (by omega), if_neg (by decide)]; omega
    · have := cntF_le P n
      split <;> omega
/-! bits of a page's map -/
def bc (m : Int32) : Nat := cntF (fun t => tbI m t) 16
theorem bc_le (m : Int32) : bc m ≤ 16 := cntF_le _ 16
theorem bc_0 : bc 0 = 0 := by
  have : bc 0 ≤ 0 := cntF_lo (fun i _ _ => tbI_zero i)
  omega
def bitI (p : Nat) : Int32 := (1 : Int32) <<< (Int32.ofNat p &&& 31)
theorem bitI_at {p t : Nat} (hp : p < 32) (ht : t < 32) : tbI (bitI p) t = decide (t = p) := tbI_bit hp ht
theorem or_bit (x : Int32) {p t : Nat} (hp : p < 32) (ht : t < 32) : tbI (x ||| bitI p) t = (tbI x t || decide (t = p)) := by rw [tbI_or, bitI_at hp ht]
theorem off_bit (x : Int32) {p t : Nat} (hp : p < 32) (ht : t < 32) : tbI (x &&& (bitI p ^^^ (-1))) t = (tbI x t && !decide (t = p)) := by
  rw [tbI_and, tbI_xor, bitI_at hp ht, tbI_neg1 ht]
  cases decide (t = p) <;> rfl
theorem and_bit (x : Int32) {p : Nat} (hp : p < 32) : x &&& bitI p = 0 ↔ tbI x p = false := by
  constructor
  · intro h
    have := congrArg (fun y => tbI y p) h
    rw [tbI_and, bitI_at hp hp, tbI_zero, decide_eq_true (show p = p from rfl), Bool.and_true] at this
    exact this
  · intro h
    refine tbI_ext fun t ht => ?_
    rw [tbI_and, bitI_at hp ht, tbI_zero]
    by_cases c : t = p
    · subst c; rw [h]; rfl
    · rw [decide_eq_false c, Bool.and_false]
theorem bc_or {x : Int32} {k : Nat} (hk : k < 16) (h : tbI x k = false) : bc (x ||| bitI k) = bc x + 1 := by
  unfold bc
  have : cntF (fun t => tbI (x ||| bitI k) t) 16 = cntF (fun t => if t = k then true else tbI x t) 16 := cntF_congr (fun i hi => by
    rw [or_bit x (by omega) (by omega)]
    by_cases c : i = k
    · rw [decide_eq_true c, if_pos c, Bool.or_true]
    · rw [decide_eq_false c, if_neg c, Bool.or_false])
  rw [this]
  exact cntF_set hk h (by simp only [if_true]) (fun i hi => if_neg hi)
theorem bc_pos {x : Int32} (h : x ≠ 0) (hb : ∀ t, 16 ≤ t → t < 32 → tbI x t = false) : 1 ≤ bc x := by
  obtain ⟨t, ht, h1⟩ := tbI_ne0 h
  have h16 : t < 16 := Nat.lt_of_not_le fun q => by rw [hb t q ht] at h1; cases h1
  exact cntF_pos h16 h1
theorem tb_iff (m : Int32) {i : Nat} (h : i < 32) : tb m (Int32.ofNat i) = 0 ↔ tbI m i = false := shr_bit m h
/-- the lowest bit, or none -/
theorem p_lowN (m : Int32) (σ : Sg) : ∃ r, c_lowestBit m σ = some (r, σ) ∧ (r = -1 ∨ ∃ k, k < 16 ∧ r = Int32.ofNat k ∧ tbI m k = true) := by
  obtain ⟨r, q, h⟩ := p_low m σ
  refine ⟨r, q, ?_⟩
  rcases h with ⟨h, -⟩ | ⟨h1, h2, h3, -⟩
  · exact Or.inl h
  · right
    have e : r = Int32.ofNat (nx r) := (ofNat_nx h1).symm
    refine ⟨nx r, by unfold nx; omega, e, ?_⟩
    cases c : tbI m (nx r) with
    | true => rfl
    | false =>
      exfalso
      apply h3
      rw [e]
      exact (tb_iff m (by unfold nx; omega)).mpr c
/-! the heap -/
def PgOk (σ : Sg) (p : Nat) : Prop := (gi σ 3 p = 0 ∧ gi σ 5 p = 0 ∧ gi σ 6 p = 0) ∨ ∃ s, s ≤ 4 ∧ gi σ 3 p = Int32.ofNat (2 ^ s) ∧ gi σ 4 p = Int32.ofNat s ∧ gi σ 5 p ≠ 0 ∧ (∀ t, 16 / 2 ^ s ≤ t → t < 32 → tbI (gi σ 5 p) t = false) ∧ gi σ 6 p = Int32.ofNat (bc (gi σ 5 p))
def Lst (σ : Sg) : Prop := (∀ c t, c ≤ 4 → t < 16 → tbI (gi σ 8 c) t = true → t < 4 ∧ gi σ 3 t ≠ 0 ∧ gi σ 4 t = Int32.ofNat c) ∧ ∀ t, t < 4 → tbI (gi σ 0 13) t = true → gi σ 3 t = 0
def tot (σ : Sg) (c : Nat) : Nat := bc (gi σ c 0) + bc (gi σ c 1) + bc (gi σ c 2) + bc (gi σ c 3)
theorem tot_le (σ : Sg) (c : Nat) : tot σ c ≤ 64 := by
  have a := bc_le (gi σ c 0)
  have b := bc_le (gi σ c 1)
  have d := bc_le (gi σ c 2)
  have e := bc_le (gi σ c 3)
  unfold tot
  omega
def Hp (σ : Sg) : Prop := gi σ 0 10 = 4 ∧ (∀ p, p < 4 → PgOk σ p) ∧ (∀ p, 4 ≤ p → gi σ 3 p = 0) ∧ Lst σ ∧ gi σ 0 15 = Int32.ofNat (tot σ 5)
theorem pw : ∀ s : Fin 5, 2 ^ s.1 ≤ 16 ∧ 1 ≤ 2 ^ s.1 ∧ 16 / 2 ^ s.1 * 2 ^ s.1 = 16 ∧ 16 / 2 ^ s.1 ≤ 16 ∧ 1 ≤ 16 / 2 ^ s.1 ∧ Int32.ofNat (2 ^ s.1) ≠ 0 := by decide +kernel
theorem pwN {s : Nat} (h : s ≤ 4) : 2 ^ s ≤ 16 ∧ 1 ≤ 2 ^ s ∧ 16 / 2 ^ s * 2 ^ s = 16 ∧ 16 / 2 ^ s ≤ 16 ∧ 1 ≤ 16 / 2 ^ s ∧ Int32.ofNat (2 ^ s) ≠ 0 := pw ⟨s, by omega⟩
theorem Hp.okh {σ : Sg} (H : Hp σ) : Okh σ := by
  obtain ⟨h10, hp, h4, -, -⟩ := H
  have e4 : (4 : Int32).toInt = 4 := rfl
  refine ⟨by rw [h10, e4]; omega, by rw [h10, e4]; omega, fun p hc => ?_⟩
  have p4 : p < 4 := Nat.lt_of_not_le fun q => hc (h4 p q)
  rcases hp p p4 with ⟨z, -, -⟩ | ⟨s, hs, -, h, -⟩
  · exact absurd z hc
  · rw [h, ti_ofNat (by omega)]; omega
/-! the lists -/
def fm (s : Nat) : Int32 := (1 : Int32) <<< (((16 : Int32) >>> (Int32.ofNat s &&& 31)) &&& 31) - 1
theorem p_smf {s : Nat} (h : s ≤ 4) (σ : Sg) : c_slotMaskFor (Int32.ofNat s) σ = some (fm s, σ) := by
  have e0 : (0 : Int32).toInt = 0 := rfl
  have e4 : (4 : Int32).toInt = 4 := rfl
  have es := ti_ofNat (n := s) (by omega)
  unfold c_slotMaskFor
  rw [if_neg (by rw [ti_lt]; omega), if_neg (by rw [ti_lt]; omega)]
  rfl
theorem fm_bit : ∀ (s : Fin 5) (t : Fin 16), tbI (fm s.1) t.1 = true → t.1 < 16 / 2 ^ s.1 := by decide +kernel
theorem rf_loop {p : Nat} (hp : p < 4) (k : Nat) : ∀ (i fuel : Nat) (σ : Sg), i + k = 5 → k < fuel → gi σ 0 10 = 4 → (gi σ 3 p ≠ 0 → ∃ s, s ≤ 4 ∧ gi σ 4 p = Int32.ofNat s) →
    ∃ σ', c_refreshPage_17 fuel (Int32.ofNat p) (bitI p) (Int32.ofNat i) σ = some σ' ∧ RfK σ σ' ∧ (∀ c t, c ≤ 4 → t < 32 → tbI (gi σ' 8 c) t = true → ((c < i ∨ t ≠ p) ∧ tbI (gi σ 8 c) t = true) ∨ (t = p ∧ gi σ 3 p ≠ 0 ∧ gi σ 4 p = Int32.ofNat c)) ∧ ∀ t, t < 32 → tbI (gi σ' 0 13) t = true → (t ≠ p ∧ tbI (gi σ 0 13) t = true) ∨ (t = p ∧ gi σ 3 p = 0) := by
  have e5 : (5 : Int32).toInt = 5 := rfl
  have e4 : (4 : Int32).toInt = 4 := rfl
  have e0 : (0 : Int32).toInt = 0 := rfl
  have ep := ti_ofNat (n := p) (by omega)
  have hoff : ∀ (x : Int32) (t : Nat), t < 32 → tbI (x &&& (bitI p ^^^ (-1))) t = true → t ≠ p ∧ tbI x t = true := fun x t ht h => by
    rw [off_bit x (by omega) ht] at h
    by_cases c : t = p
    · rw [decide_eq_true c] at h; simp at h
    · rw [decide_eq_false c] at h
      exact ⟨c, by simpa using h⟩
  have hon : ∀ (x : Int32) (t : Nat), t < 32 → tbI (x ||| bitI p) t = true → tbI x t = true ∨ t = p := fun x t ht h => by
    rw [or_bit x (by omega) ht] at h
    by_cases c : t = p
    · exact Or.inr c
    · rw [decide_eq_false c, Bool.or_false] at h
      exact Or.inl h
  induction k with
  | zero =>
    intro i fuel σ h1 h2 h10 h4
    obtain ⟨f, rfl⟩ : ∃ f, fuel = f + 1 := ⟨fuel - 1, by omega⟩
    have hi : i = 5 := by omega
    subst hi
    rw [c_refreshPage_17, if_neg (by decide), h10, if_pos (by rw [ti_lt]; omega), if_pos (inbT (by omega) (show (Int32.ofNat p).toInt < ((16 : Nat) : Int) by omega)), nx_ofNat (by omega)]
    by_cases z : gi σ 3 p = 0
    · rw [if_pos z]
      refine ⟨_, rfl, ⟨fun kk j a b => by simp [gi_si, a], fun j a => by simp [gi_si, a]⟩, fun c t hc ht h => ?_, fun t ht h => ?_⟩
      · rw [gi_si, if_neg (by simp), gi_si, if_neg (by simp)] at h
        exact Or.inl ⟨Or.inl (by omega), h⟩
      · rw [gi_si, if_pos ⟨rfl, rfl⟩] at h
        rcases hon _ t ht h with h' | h'
        · exact Or.inl (hoff _ t ht h')
        · exact Or.inr ⟨h', z⟩
    · obtain ⟨s, hs, hs4⟩ := h4 z
      have es := ti_ofNat (n := s) (by omega)
      rw [if_neg z, hs4, if_neg (by rw [ti_lt]; omega), if_neg (by rw [ti_lt]; omega), p_smf hs, Option.bind_some]
      simp only []
      have hfree : ∀ t, t < 32 → tbI (gi σ 0 13 &&& (bitI p ^^^ (-1))) t = true → (t ≠ p ∧ tbI (gi σ 0 13) t = true) ∨ (t = p ∧ gi σ 3 p = 0) := fun t ht h => Or.inl (hoff _ t ht h)
      by_cases q : gi (si σ 0 13 (gi σ 0 13 &&& (bitI p ^^^ (-1)))) 5 p &&& fm s = fm s
      · rw [if_pos q]
        refine ⟨_, rfl, ⟨fun kk j a b => by simp [gi_si, a], fun j a => by simp [gi_si, a]⟩, fun c t hc ht h => ?_, fun t ht h => ?_⟩
        · rw [gi_si, if_neg (by simp)] at h
          exact Or.inl ⟨Or.inl (by omega), h⟩
        · rw [gi_si, if_pos ⟨rfl, rfl⟩] at h
          exact hfree t ht h
      · rw [if_neg q, if_pos (inbT (by omega) (show (Int32.ofNat s).toInt < ((5 : Nat) : Int) by omega)), nx_ofNat (by omega)]
        refine ⟨_, rfl, ⟨fun kk j a b => by simp [gi_si, a, b], fun j a => by simp [gi_si, a]⟩, fun c t hc ht h => ?_, fun t ht h => ?_⟩
        · rw [gi_si] at h
          by_cases e : c = s
          · rw [if_pos ⟨rfl, e⟩, gi_si, if_neg (by simp)] at h
            rcases hon _ t ht h with h' | h'
            · rw [← e] at h'; exact Or.inl ⟨Or.inl (by omega), h'⟩
            · exact Or.inr ⟨h', z, by rw [e]⟩
          · rw [if_neg (fun w => e w.2), gi_si, if_neg (by simp)] at h
            exact Or.inl ⟨Or.inl (by omega), h⟩
        · rw [gi_si, if_neg (by simp), gi_si, if_pos ⟨rfl, rfl⟩] at h
          exact hfree t ht h
  | succ k ih =>
    intro i fuel σ h1 h2 h10 h4
    obtain ⟨f, rfl⟩ : ∃ f, fuel = f + 1 := ⟨fuel - 1, by omega⟩
    have ei := ti_ofNat (n := i) (by omega)
    rw [c_refreshPage_17, if_pos (by rw [ti_lt]; omega), if_pos (inbT (by omega) (show (Int32.ofNat i).toInt < ((5 : Nat) : Int) by omega)), nx_ofNat (by omega), ofNat_succ]
    have z : ∀ kk j, kk ≠ 8 → gi (si σ 8 i (gi σ 8 i &&& (bitI p ^^^ (-1)))) kk j = gi σ kk j := fun kk j ne => by rw [gi_si, if_neg (fun w => ne w.1)]
    obtain ⟨σ', q, K, A, B⟩ := ih (i + 1) f (si σ 8 i (gi σ 8 i &&& (bitI p ^^^ (-1)))) (by omega) (by omega) (by rw [z 0 10 (by decide)]; exact h10) (by rw [z 3 p (by decide), z 4 p (by decide)]; exact h4)
    refine ⟨σ', q, ⟨fun kk j c d => by rw [K.1 kk j c d, z kk j d], fun j c => by rw [K.2 j c, z 0 j (by decide)]⟩, fun c t hc ht h => ?_, fun t ht h => ?_⟩
    · rcases A c t hc ht h with ⟨h1', h2'⟩ | h'
      · rw [gi_si] at h2'
        by_cases e : c = i
        · rw [if_pos ⟨rfl, e⟩] at h2'
          obtain ⟨h3, h4'⟩ := hoff _ t ht h2'
          rw [← e] at h4'
          exact Or.inl ⟨Or.inr h3, h4'⟩
        · rw [if_neg (fun w => e w.2)] at h2'
          refine Or.inl ⟨?_, h2'⟩
          rcases h1' with h | h
          · exact Or.inl (by omega)
          · exact Or.inr h
      · rw [z 3 p (by decide), z 4 p (by decide)] at h'
        exact Or.inr h'
    · have := B t ht h
      rw [z 0 13 (by decide), z 3 p (by decide)] at this
      exact this
theorem p_rfS {p : Nat} (hp : p < 4) {σ : Sg} (h10 : gi σ 0 10 = 4) (h4 : gi σ 3 p ≠ 0 → ∃ s, s ≤ 4 ∧ gi σ 4 p = Int32.ofNat s) : ∃ σ', c_refreshPage (Int32.ofNat p) σ = some σ' ∧ RfK σ σ' ∧ (∀ c t, c ≤ 4 → t < 32 → tbI (gi σ' 8 c) t = true → (t ≠ p ∧ tbI (gi σ 8 c) t = true) ∨ (t = p ∧ gi σ 3 p ≠ 0 ∧ gi σ 4 p = Int32.ofNat c)) ∧ ∀ t, t < 32 → tbI (gi σ' 0 13) t = true → (t ≠ p ∧ tbI (gi σ 0 13) t = true) ∨ (t = p ∧ gi σ 3 p = 0) := by
  have e0 : (0 : Int32).toInt = 0 := rfl
  have e16 : (16 : Int32).toInt = 16 := rfl
  have ep := ti_ofNat (n := p) (by omega)
  obtain ⟨σ', q, K, A, B⟩ := rf_loop hp 5 0 400 σ (by omega) (by omega) h10 h4
  refine ⟨σ', ?_, K, fun c t hc ht h => ?_, B⟩
  · unfold c_refreshPage
    rw [if_neg (by rw [ti_lt]; omega), if_pos (by rw [ti_lt]; omega)]
    exact q
  · rcases A c t hc ht h with ⟨h1, h2⟩ | h'
    · rcases h1 with h1 | h1
      · omega
      · exact Or.inl ⟨h1, h2⟩
    · exact Or.inr h'
theorem RfK.pg {σ σ' : Sg} (K : RfK σ σ') {p : Nat} (h : PgOk σ p) : PgOk σ' p := by
  unfold PgOk at h ⊢
  rw [K.1 3 p (by decide) (by decide), K.1 4 p (by decide) (by decide), K.1 5 p (by decide) (by decide), K.1 6 p (by decide) (by decide)]
  exact h
theorem PgOk.same {σ σ' : Sg} {p : Nat} (h : PgOk σ p) (e : ∀ k, k = 3 ∨ k = 4 ∨ k = 5 ∨ k = 6 → gi σ' k p = gi σ k p) : PgOk σ' p := by
  unfold PgOk at h ⊢
  rw [e 3 (by omega), e 4 (by omega), e 5 (by omega), e 6 (by omega)]
  exact h
/-! an object more -/
def NewO (σ σ' : Sg) (p k s : Nat) : Prop := p < 4 ∧ s ≤ 4 ∧ k < 16 / 2 ^ s ∧ gi σ' 3 p = Int32.ofNat (2 ^ s) ∧ gi σ' 4 p = Int32.ofNat s ∧ tbI (gi σ' 5 p) k = true ∧ (∀ j, 16 * p + k * 2 ^ s ≤ j → j < 16 * p + k * 2 ^ s + 2 ^ s → gi σ' 2 j = 0) ∧ (∀ j, gi σ' 1 j = gi σ 1 j) ∧ (∀ j, j ≠ 13 → j ≠ 15 → gi σ' 0 j = gi σ 0 j) ∧ gi σ' 0 15 = gi σ 0 15 + 1
theorem ofN_add (a b : Nat) : Int32.ofNat a + Int32.ofNat b = Int32.ofNat (a + b) := (Int32.ofNat_add a b).symm
theorem place8 {τ : Sg} {p k s : Nat} (hp : p < 4) (hs : s ≤ 4) (hk : k < 16 / 2 ^ s) (h10 : gi τ 0 10 = 4) (ho : ∀ q, q < 4 → q ≠ p → PgOk τ q) (h4 : ∀ q, 4 ≤ q → gi τ 3 q = 0) (hl1 : ∀ c t, c ≤ 4 → t < 16 → t ≠ p → tbI (gi τ 8 c) t = true → t < 4 ∧ gi τ 3 t ≠ 0 ∧ gi τ 4 t = Int32.ofNat c) (hl2 : ∀ t, t < 4 → t ≠ p → tbI (gi τ 0 13) t = true → gi τ 3 t = 0) (c3 : gi τ 3 p = Int32.ofNat (2 ^ s)) (c4 : gi τ 4 p = Int32.ofNat s) (hb : ∀ t, 16 / 2 ^ s ≤ t → t < 32 → tbI (gi τ 5 p) t = false) (c6 : gi τ 6 p = Int32.ofNat (bc (gi τ 5 p))) (hfree : tbI (gi τ 5 p) k = false) (h15 : gi τ 0 15 = Int32.ofNat (tot τ 5)) :
    ∃ σ', c_placeObject (Int32.ofNat p) (Int32.ofNat k) τ = some (Int32.ofNat (4096 + 16 * p + k * 2 ^ s), σ') ∧ Hp σ' ∧ NewO τ σ' p k s := by
  obtain ⟨w1, w2, w3, w4, w5, w6⟩ := pwN hs
  have ep := ti_ofNat (n := p) (by omega)
  have ek := ti_ofNat (n := k) (by omega)
  have es := ti_ofNat (n := s) (by omega)
  have e4 : (4 : Int32).toInt = ((4 : Nat) : Int) := rfl
  have e4096 : (4096 : Int32).toInt = 4096 := rfl
  have e16 : (16 : Int32).toInt = 16 := rfl
  have hkm : k * 2 ^ s + 2 ^ s ≤ 16 := by
    have : (k + 1) * 2 ^ s ≤ 16 / 2 ^ s * 2 ^ s := Nat.mul_le_mul_right _ (by omega)
    rw [Nat.add_mul, Nat.one_mul] at this
    omega
  have hip : inb (Int32.ofNat p) 16 = true := inbT (by omega) (show (Int32.ofNat p).toInt < ((16 : Nat) : Int) by omega)
  obtain ⟨t1, ht1⟩ : ∃ t1, t1 = si (si (si τ 5 p (gi τ 5 p ||| bitI k)) 6 p (gi τ 6 p + 1)) 0 15 (gi τ 0 15 + 1) := ⟨_, rfl⟩
  have g1 : ∀ kk j, kk ≠ 5 → kk ≠ 6 → kk ≠ 0 → gi t1 kk j = gi τ kk j := fun kk j a b c => by rw [ht1, gi_si, if_neg (fun w => c w.1), gi_si, if_neg (fun w => b w.1), gi_si, if_neg (fun w => a w.1)]
  have hsp : ((Int32.ofNat p) <<< ((4 : Int32) &&& 31)).toInt = ((16 * p : Nat) : Int) := by
    rw [ti_shl e4 (by decide) (by rw [ep]; omega) (by rw [ep]; omega), ep]; omega
  have hsk : ((Int32.ofNat k) <<< ((Int32.ofNat s) &&& 31)).toInt = ((k * 2 ^ s : Nat) : Int) := by
    rw [ti_shl es (by omega) (by rw [ek, ← Int.natCast_mul]; omega) (by rw [ek, ← Int.natCast_mul]; omega), ek, Int.natCast_mul]
  have h1 : ((4096 : Int32) + (Int32.ofNat p) <<< ((4 : Int32) &&& 31)).toInt = 4096 + ((16 * p : Nat) : Int) := by rw [ti_add (by omega) (by omega), hsp, e4096]
  have hst : (4096 : Int32) + (Int32.ofNat p) <<< ((4 : Int32) &&& 31) + (Int32.ofNat k) <<< ((Int32.ofNat s) &&& 31) = Int32.ofNat (4096 + 16 * p + k * 2 ^ s) := by
    refine eq_ofNat ?_
    rw [ti_add (by omega) (by omega), h1, hsk]
    omega
  have eA := ti_ofNat (n := 4096 + 16 * p + k * 2 ^ s) (by omega)
  have ezz := ti_ofNat (n := 2 ^ s) (by omega)
  obtain ⟨t2, q2, a1, a2, a3⟩ := p_cw (Int32.ofNat (4096 + 16 * p + k * 2 ^ s)) (Int32.ofNat (2 ^ s)) t1
  have hsub : (Int32.ofNat (4096 + 16 * p + k * 2 ^ s) - 4096).toInt = ((16 * p + k * 2 ^ s : Nat) : Int) := by
    rw [ti_sub (by omega) (by omega), eA, e4096]; omega
  have g2 : ∀ kk j, kk ≠ 5 → kk ≠ 6 → kk ≠ 0 → kk ≠ 2 → gi t2 kk j = gi τ kk j := fun kk j a b c d => (a1 kk j d).trans (g1 kk j a b c)
  have g20 : ∀ j, j ≠ 15 → gi t2 0 j = gi τ 0 j := fun j a => by rw [a1 0 j (by decide), ht1, gi_si, if_neg (fun w => a w.2), gi_si, if_neg (by simp), gi_si, if_neg (by simp)]
  have g25 : ∀ j, gi t2 5 j = if j = p then gi τ 5 p ||| bitI k else gi τ 5 j := fun j => by
    rw [a1 5 j (by decide), ht1, gi_si, if_neg (by simp), gi_si, if_neg (by simp), gi_si]
    by_cases c : j = p
    · rw [if_pos ⟨rfl, c⟩, if_pos c]
    · rw [if_neg (fun w => c w.2), if_neg c]
  have g26 : ∀ j, gi t2 6 j = if j = p then gi τ 6 p + 1 else gi τ 6 j := fun j => by
    rw [a1 6 j (by decide), ht1, gi_si, if_neg (by simp), gi_si]
    by_cases c : j = p
    · rw [if_pos ⟨rfl, c⟩, if_pos c]
    · rw [if_neg (fun w => c w.2), if_neg c, gi_si, if_neg (by simp)]
  obtain ⟨σ', q3, K, A, B⟩ := p_rfS hp (σ := t2) (by rw [g20 10 (by decide)]; exact h10) (fun _ => ⟨s, hs, by rw [g2 4 p (by decide) (by decide) (by decide) (by decide)]; exact c4⟩)
  have z3 : ∀ j, gi σ' 3 j = gi τ 3 j := fun j => (K.1 3 j (by decide) (by decide)).trans (g2 3 j (by decide) (by decide) (by decide) (by decide))
  have z4 : ∀ j, gi σ' 4 j = gi τ 4 j := fun j => (K.1 4 j (by decide) (by decide)).trans (g2 4 j (by decide) (by decide) (by decide) (by decide))
  have z5 : ∀ j, gi σ' 5 j = if j = p then gi τ 5 p ||| bitI k else gi τ 5 j := fun j => (K.1 5 j (by decide) (by decide)).trans (g25 j)
  have z6 : ∀ j, gi σ' 6 j = if j = p then gi τ 6 p + 1 else gi τ 6 j := fun j => (K.1 6 j (by decide) (by decide)).trans (g26 j)
  have z0 : ∀ j, j ≠ 13 → j ≠ 15 → gi σ' 0 j = gi τ 0 j := fun j a b => (K.2 j a).trans (g20 j b)
  have z15 : gi σ' 0 15 = gi τ 0 15 + 1 := by rw [K.2 15 (by decide), a1 0 15 (by decide), ht1, gi_si, if_pos ⟨rfl, rfl⟩]
  have hbo := bc_or (x := gi τ 5 p) (k := k) (by omega) hfree
  have hko : tbI (gi τ 5 p ||| bitI k) k = true := by rw [or_bit _ (by omega) (by omega), decide_eq_true (show k = k from rfl), Bool.or_true]
  have htot : tot σ' 5 = tot τ 5 + 1 := by
    unfold tot
    rw [z5 0, z5 1, z5 2, z5 3]
    have : p = 0 ∨ p = 1 ∨ p = 2 ∨ p = 3 := by omega
    rcases this with rfl | rfl | rfl | rfl
    · rw [if_pos rfl, if_neg (by decide), if_neg (by decide), if_neg (by decide), hbo]; omega
    · rw [if_neg (by decide), if_pos rfl, if_neg (by decide), if_neg (by decide), hbo]; omega
    · rw [if_neg (by decide), if_neg (by decide), if_pos rfl, if_neg (by decide), hbo]; omega
    · rw [if_neg (by decide), if_neg (by decide), if_neg (by decide), if_pos rfl, hbo]; omega
  refine ⟨σ', ?_, ⟨?_, fun q hq => ?_, fun q hq => by rw [z3]; exact h4 q hq, ⟨fun c t hc ht h => ?_, fun t ht h => ?_⟩, ?_⟩, hp, hs, hk, by rw [z3]; exact c3, by rw [z4]; exact c4, by rw [z5, if_pos rfl]; exact hko, fun j hj1 hj2 => ?_, fun j => ?_, z0, z15⟩
  · unfold c_placeObject c_slotStart
    rw [if_pos hip, nx_ofNat (by omega)]
    rw [if_pos hip, show si (si (si τ 5 p (gi τ 5 p ||| (1 : Int32) <<< (Int32.ofNat k &&& 31))) 6 p (gi τ 6 p + 1)) 0 15 (gi τ 0 15 + 1) = t1 from ht1.symm, g1 4 p (by decide) (by decide) (by decide), c4, hst, Option.bind_some]
    simp only []
    rw [g1 3 p (by decide) (by decide) (by decide), c3, q2, Option.bind_some, q3, Option.bind_some]
  · rw [z0 10 (by decide) (by decide)]; exact h10
  · by_cases c : q = p
    · subst c
      refine Or.inr ⟨s, hs, by rw [z3]; exact c3, by rw [z4]; exact c4, ?_, fun t h5 h6 => ?_, ?_⟩
      · rw [z5, if_pos rfl]
        intro h0
        rw [h0, tbI_zero] at hko
        cases hko
      · rw [z5, if_pos rfl, or_bit _ (by omega) h6, hb t h5 h6, decide_eq_false (by omega)]; rfl
      · rw [z6, if_pos rfl, z5, if_pos rfl, hbo, c6, ofNat_succ]
    · exact (ho q hq c).same (fun kk hkk => by
        rcases hkk with rfl | rfl | rfl | rfl
        · exact z3 q
        · exact z4 q
        · rw [z5, if_neg c]
        · rw [z6, if_neg c])
  · rcases A c t hc (by omega) h with ⟨h5, h6⟩ | ⟨h5, h6, h7⟩
    · rw [g2 8 c (by decide) (by decide) (by decide) (by decide)] at h6
      rw [z3, z4]
      exact hl1 c t hc ht h5 h6
    · subst h5
      rw [g2 3 t (by decide) (by decide) (by decide) (by decide)] at h6
      rw [g2 4 t (by decide) (by decide) (by decide) (by decide)] at h7
      rw [z3, z4]
      exact ⟨hp, h6, h7⟩
  · rw [z3]
    rcases B t (by omega) h with ⟨h5, h6⟩ | ⟨h5, h6⟩
    · rw [g20 13 (by decide)] at h6
      exact hl2 t ht h5 h6
    · subst h5
      rw [g2 3 t (by decide) (by decide) (by decide) (by decide)] at h6
      exact h6
  · rw [z15, h15, htot, ofNat_succ]
  · rw [K.1 2 j (by decide) (by decide)]
    have ej := ti_ofNat (n := j - (16 * p + k * 2 ^ s)) (by omega)
    have := a3 (by omega) (by omega) (Int32.ofNat (j - (16 * p + k * 2 ^ s))) (by omega) (by omega) (by omega)
    rw [show nx (Int32.ofNat (4096 + 16 * p + k * 2 ^ s) - 4096 + Int32.ofNat (j - (16 * p + k * 2 ^ s))) = j from nx_eq (by rw [ti_add (by omega) (by omega), hsub, ej]; omega)] at this
    exact this
  · rw [K.1 1 j (by decide) (by decide)]; exact g2 1 j (by decide) (by decide) (by decide) (by decide)
theorem ci_n {n : Int32} : ∃ s, s ≤ 4 ∧ ciF n = Int32.ofNat s := by
  have := ciF_bd n
  exact ⟨nx (ciF n), by unfold nx; omega, (ofNat_nx this.1).symm⟩
theorem alloc8 {σ : Sg} (H : Hp σ) {n : Int32} {s : Nat} (hs : s ≤ 4) (hci : ciF n = Int32.ofNat s) : c_alloc n σ = some (0, σ) ∨ ∃ p k σ', c_alloc n σ = some (Int32.ofNat (4096 + 16 * p + k * 2 ^ s), σ') ∧ Hp σ' ∧ NewO σ σ' p k s ∧ 1 ≤ n.toInt := by
  obtain ⟨h10, hpg, h4, ⟨hl1, hl2⟩, h15⟩ := H
  have e0 : (0 : Int32).toInt = 0 := rfl
  have e1 : (1 : Int32).toInt = 1 := rfl
  have e4 : (4 : Int32).toInt = 4 := rfl
  have es := ti_ofNat (n := s) (by omega)
  obtain ⟨w1, w2, w3, w4, w5, w6⟩ := pwN hs
  unfold c_alloc
  by_cases a1 : n < 1
  · rw [if_pos a1]; exact Or.inl rfl
  rw [if_neg a1]
  by_cases a2 : 16 < n
  · rw [if_pos a2]; exact Or.inl rfl
  rw [if_neg a2, p_ci, Option.bind_some, hci]
  simp only []
  rw [ti_lt] at a1
  have n1 : 1 ≤ n.toInt := by omega
  have s0 : ¬ Int32.ofNat s < 0 := by rw [ti_lt]; omega
  have s4 : ¬ 4 < Int32.ofNat s := by rw [ti_lt]; omega
  have hin5 : inb (Int32.ofNat s) 5 = true := inbT (by omega) (show (Int32.ofNat s).toInt < ((5 : Nat) : Int) by omega)
  have e40 : (40 : Nat) = 40 := rfl
  -- a slot in a page of the class
  have hA : c_allocInClassPage (Int32.ofNat s) σ = some (0, σ) ∨ ∃ p k σ', c_allocInClassPage (Int32.ofNat s) σ = some (Int32.ofNat (4096 + 16 * p + k * 2 ^ s), σ') ∧ Hp σ' ∧ NewO σ σ' p k s := by
    unfold c_allocInClassPage
    rw [if_neg s0, if_neg s4, if_pos hin5, nx_ofNat (by omega)]
    obtain ⟨r, q, hr⟩ := p_lowN (gi σ 8 s) σ
    rw [q, Option.bind_some]
    simp only []
    rcases hr with rfl | ⟨p, hp16, rfl, hb⟩
    · rw [if_pos (show (-1 : Int32) < 0 by decide)]; exact Or.inl rfl
    · obtain ⟨hp, hc3, hc4⟩ := hl1 s p hs hp16 hb
      have ep := ti_ofNat (n := p) (by omega)
      rw [if_neg (show ¬ Int32.ofNat p < 0 by rw [ti_lt]; omega), h10, if_pos (show Int32.ofNat p < 4 by rw [ti_lt]; omega), p_smf hs, Option.bind_some, if_pos (inbT (by omega) (show (Int32.ofNat p).toInt < ((16 : Nat) : Int) by omega)), nx_ofNat (by omega)]
      simp only []
      obtain ⟨r2, q2, hr2⟩ := p_lowN ((gi σ 5 p ^^^ (-1)) &&& fm s) σ
      rw [q2, Option.bind_some]
      simp only []
      rcases hr2 with rfl | ⟨k, hk16, rfl, hkb⟩
      · rw [if_pos (show (-1 : Int32) < 0 by decide)]; exact Or.inl rfl
      · have ek := ti_ofNat (n := k) (by omega)
        rw [if_neg (show ¬ Int32.ofNat k < 0 by rw [ti_lt]; omega)]
        rw [tbI_and, tbI_xor, tbI_neg1 (by omega), Bool.and_eq_true] at hkb
        obtain ⟨k1, k2⟩ := hkb
        have hfree : tbI (gi σ 5 p) k = false := by
          cases c : tbI (gi σ 5 p) k with
          | false => rfl
          | true => rw [c] at k1; cases k1
        have hk : k < 16 / 2 ^ s := fm_bit ⟨s, by omega⟩ ⟨k, hk16⟩ k2
        rcases hpg p hp with ⟨z, -, -⟩ | ⟨s', hs', d3, d4, d5, d6, d7⟩
        · exact absurd z hc3
        · have : s' = s := by
            rw [hc4, ti_eq, es, ti_ofNat (by omega)] at d4
            omega
          subst this
          obtain ⟨σ', qp, Hp', N⟩ := place8 hp hs hk h10 (fun q hq _ => hpg q hq) h4 (fun c t hc ht _ h => hl1 c t hc ht h) (fun t ht _ h => hl2 t ht h) d3 d4 d6 d7 hfree h15
          right
          refine ⟨p, k, σ', ?_, Hp', N⟩
          rw [qp, Option.bind_some]
  rcases hA with hA | ⟨p, k, σ', hA, Hp', N⟩
  · rw [hA, Option.bind_some, if_pos rfl]
    simp only []
    -- a fresh page
    unfold c_allocInFreshPage c_validPageMask
    rw [if_neg s0, if_neg s4, Option.bind_some]
    simp only []
    obtain ⟨r, q, hr⟩ := p_lowN ((gi σ 0 13 &&& (gi σ 0 14 ^^^ (-1))) &&& ((1 : Int32) <<< (gi σ 0 10 &&& 31) - 1)) σ
    rw [q, Option.bind_some]
    simp only []
    rcases hr with rfl | ⟨p, hp16, rfl, hb⟩
    · rw [if_pos (show (-1 : Int32) < 0 by decide)]; exact Or.inl rfl
    · have ep := ti_ofNat (n := p) (by omega)
      rw [h10, tbI_and, tbI_and, Bool.and_eq_true, Bool.and_eq_true] at hb
      obtain ⟨⟨b1, -⟩, b3⟩ := hb
      have hv : ∀ t : Fin 16, tbI ((1 : Int32) <<< ((4 : Int32) &&& 31) - 1) t.1 = true → t.1 < 4 := by decide +kernel
      have hp : p < 4 := hv ⟨p, hp16⟩ b3
      have hc3 := hl2 p hp b1
      have hpz : gi σ 5 p = 0 ∧ gi σ 6 p = 0 := by
        rcases hpg p hp with ⟨-, z5, z6⟩ | ⟨s', hs', d3, -⟩
        · exact ⟨z5, z6⟩
        · rw [hc3] at d3; exact absurd d3.symm (pwN hs').2.2.2.2.2
      rw [if_neg (show ¬ Int32.ofNat p < 0 by rw [ti_lt]; omega), h10, if_pos (show Int32.ofNat p < 4 by rw [ti_lt]; omega), if_pos (inbT (by omega) (show (Int32.ofNat p).toInt < ((16 : Nat) : Int) by omega)), nx_ofNat (by omega)]
      have sh : ∀ s : Fin 5, (1 : Int32) <<< (Int32.ofNat s.1 &&& 31) = Int32.ofNat (2 ^ s.1) := by decide +kernel
      have shs : (1 : Int32) <<< (Int32.ofNat s &&& 31) = Int32.ofNat (2 ^ s) := sh ⟨s, by omega⟩
      rw [shs]
      obtain ⟨τ, hτ⟩ : ∃ τ, τ = si (si (si (si σ 3 p (Int32.ofNat (2 ^ s))) 4 p (Int32.ofNat s)) 5 p 0) 6 p 0 := ⟨_, rfl⟩
      rw [← hτ]
      have y : ∀ kk j, j ≠ p → gi τ kk j = gi σ kk j := fun kk j ne => by rw [hτ, gi_si, if_neg (fun w => ne w.2), gi_si, if_neg (fun w => ne w.2), gi_si, if_neg (fun w => ne w.2), gi_si, if_neg (fun w => ne w.2)]
      have y0 : ∀ kk j, kk ≠ 3 → kk ≠ 4 → kk ≠ 5 → kk ≠ 6 → gi τ kk j = gi σ kk j := fun kk j a b c d => by rw [hτ, gi_si, if_neg (fun w => d w.1), gi_si, if_neg (fun w => c w.1), gi_si, if_neg (fun w => b w.1), gi_si, if_neg (fun w => a w.1)]
      have y3 : gi τ 3 p = Int32.ofNat (2 ^ s) := by rw [hτ]; simp [gi_si]
      have y4 : gi τ 4 p = Int32.ofNat s := by rw [hτ]; simp [gi_si]
      have y5 : gi τ 5 p = 0 := by rw [hτ]; simp [gi_si]
      have y6 : gi τ 6 p = 0 := by rw [hτ]; simp [gi_si]
      have y5a : ∀ j, gi τ 5 j = gi σ 5 j := fun j => by
        by_cases c : j = p
        · rw [c, y5, hpz.1]
        · exact y 5 j c
      have ht5 : tot τ 5 = tot σ 5 := by unfold tot; rw [y5a, y5a, y5a, y5a]
      have pl := place8 (τ := τ) (k := 0) hp hs (by omega) (by rw [y0 0 10 (by decide) (by decide) (by decide) (by decide)]; exact h10) (fun q hq ne => (hpg q hq).same (fun kk _ => y kk q ne)) (fun q hq => by rw [y 3 q (by omega)]; exact h4 q hq) (fun c t hc ht ne h => by
        rw [y0 8 c (by decide) (by decide) (by decide) (by decide)] at h
        rw [y 3 t ne, y 4 t ne]
        exact hl1 c t hc ht h) (fun t ht ne h => by
        rw [y0 0 13 (by decide) (by decide) (by decide) (by decide)] at h
        rw [y 3 t ne]
        exact hl2 t ht h) y3 y4 (fun t _ _ => by rw [y5]; exact tbI_zero t) (by rw [y6, y5, bc_0]; rfl) (by rw [y5]; exact tbI_zero 0) (by rw [y0 0 15 (by decide) (by decide) (by decide) (by decide), ht5]; exact h15)
      obtain ⟨σ', qp, Hp', N⟩ := pl
      right
      refine ⟨p, 0, σ', ?_, Hp', ?_, n1⟩
      · rw [show c_placeObject (Int32.ofNat p) 0 τ = some (Int32.ofNat (4096 + 16 * p + 0 * 2 ^ s), σ') from qp, Option.bind_some, Option.bind_some]
      · obtain ⟨m1, m2, m3, m4, m5, m6, m7, m8, m9, m10⟩ := N
        exact ⟨m1, m2, m3, m4, m5, m6, m7, fun j => by rw [m8, y0 1 j (by decide) (by decide) (by decide) (by decide)], fun j a b => by rw [m9 j a b, y0 0 j (by decide) (by decide) (by decide) (by decide)], by rw [m10, y0 0 15 (by decide) (by decide) (by decide) (by decide)]⟩
  · right
    refine ⟨p, k, σ', ?_, Hp', N, n1⟩
    have : ¬ Int32.ofNat (4096 + 16 * p + k * 2 ^ s) = 0 := by
      obtain ⟨m1, m2, m3, -⟩ := N
      have hkm : k * 2 ^ s ≤ 16 := by
        have : k * 2 ^ s ≤ 16 / 2 ^ s * 2 ^ s := Nat.mul_le_mul_right _ (by omega)
        omega
      rw [ti_eq, ti_ofNat (by omega)]; omega
    rw [hA, Option.bind_some, if_neg this]
/-! ConservativeBiY: marking -/
theorem p_slotOf {σ : Sg} {a : Int32} (H : Okh σ) (h : inH σ a = true) (hc : gi σ 3 (pgN a) ≠ 0) : c_slotOf a (Int32.ofNat (pgN a)) σ = some (Int32.ofNat (slN σ a), σ) := by
  obtain ⟨b1, b2, b3, b4⟩ := inH_bd H h
  have hp : (Int32.ofNat (pgN a)).toInt = (pgN a : Int) := ti_ofNat (by omega)
  have e0 : (0 : Int32).toInt = 0 := rfl
  have e15 : (15 : Int32).toInt = 15 := rfl
  have e4 : (4 : Int32).toInt = ((4 : Nat) : Int) := rfl
  have e : (4096 : Int32).toInt = 4096 := rfl
  have hpn : nx (Int32.ofNat (pgN a)) = pgN a := nx_ofNat (by omega)
  have hin : inb (Int32.ofNat (pgN a)) 16 = true := inbT (by omega) (by omega)
  obtain ⟨s1, s2⟩ := H.2.2 _ hc
  have hsN : (gi σ 4 (pgN a)).toInt = (shN σ (pgN a) : Int) := by unfold shN; omega
  have hsub : (a - 4096).toInt = a.toInt - 4096 := by rw [ti_sub (by omega) (by have := ti_hi a; omega), e]
  have hshl : ((Int32.ofNat (pgN a)) <<< ((4 : Int32) &&& 31)).toInt = (pgN a : Int) * ((2 ^ 4 : Nat) : Int) := by rw [ti_shl e4 (by decide) (by omega) (by omega), hp]
  have hwi : (a - 4096 - (Int32.ofNat (pgN a)) <<< ((4 : Int32) &&& 31)).toInt = (wiN a : Int) := by rw [ti_sub (by omega) (by omega)]; omega
  have hslot : (a - 4096 - (Int32.ofNat (pgN a)) <<< ((4 : Int32) &&& 31)) >>> ((gi σ 4 (pgN a)) &&& 31) = Int32.ofNat (slN σ a) := by
    refine eq_ofNat ?_
    rw [ti_shr hsN (by omega), hwi]
    unfold slN
    exact (Int.natCast_ediv _ _).symm
  unfold c_slotOf
  rw [if_neg (by rw [ti_lt, hwi]; omega), if_neg (by rw [ti_lt, hwi]; omega), if_pos hin, hpn, hslot]
def Mk (σ0 σ : Sg) : Prop := (∀ k j, k ≠ 0 → k ≠ 9 → k ≠ 10 → gi σ k j = gi σ0 k j) ∧ (∀ j, j ≠ 16 → j ≠ 17 → j ≠ 18 → gi σ 0 j = gi σ0 0 j) ∧ (∀ p, p < 4 → ∀ t, t < 32 → tbI (gi σ 9 p) t = true → t < 16 ∧ tbI (gi σ0 5 p) t = true) ∧ gi σ 0 17 = Int32.ofNat (tot σ 9) ∧ 0 ≤ (gi σ 0 16).toInt ∧ (gi σ 0 16).toInt ≤ 256
theorem Mk.okh {σ0 σ : Sg} (H : Hp σ0) (M : Mk σ0 σ) : Okh σ := by
  obtain ⟨a, b, c⟩ := H.okh
  unfold Okh
  rw [M.2.1 10 (by decide) (by decide) (by decide)]
  refine ⟨a, b, fun p hp => ?_⟩
  rw [M.1 3 p (by decide) (by decide) (by decide)] at hp
  rw [M.1 4 p (by decide) (by decide) (by decide)]
  exact c p hp
theorem Mk.same {σ0 σ τ : Sg} (M : Mk σ0 σ) (h : ∀ k j, k ≠ 10 → (k = 0 → j ≠ 16 ∧ j ≠ 18) → gi τ k j = gi σ k j) (h1 : 0 ≤ (gi τ 0 16).toInt) (h2 : (gi τ 0 16).toInt ≤ 256) : Mk σ0 τ := by
  obtain ⟨m1, m2, m3, m4, m5, m6⟩ := M
  refine ⟨fun k j a b c => ?_, fun j a b c => ?_, fun p hp t ht => ?_, ?_, h1, h2⟩
  · rw [h k j c (fun q => absurd q a)]; exact m1 k j a b c
  · rw [h 0 j (by decide) (fun _ => ⟨a, c⟩)]; exact m2 j a b c
  · rw [h 9 p (by decide) (fun q => absurd q (by decide))]; exact m3 p hp t ht
  · have e : tot τ 9 = tot σ 9 := by
      unfold tot
      rw [h 9 0 (by decide) (fun q => absurd q (by decide)), h 9 1 (by decide) (fun q => absurd q (by decide)), h 9 2 (by decide) (fun q => absurd q (by decide)), h 9 3 (by decide) (fun q => absurd q (by decide))]
    rw [h 0 17 (by decide) (fun _ => ⟨by decide, by decide⟩), e]; exact m4
/-- marks stay -/
def Mono (σ σ' : Sg) : Prop := ∀ p t, p < 4 → t < 32 → tbI (gi σ 9 p) t = true → tbI (gi σ' 9 p) t = true
theorem Mono.refl (σ : Sg) : Mono σ σ := fun _ _ _ _ h => h
theorem Mono.trans {a b c : Sg} (h : Mono a b) (g : Mono b c) : Mono a c := fun p t hp ht q => g p t hp ht (h p t hp ht q)
theorem Mono.same {a b : Sg} (h : ∀ j, gi b 9 j = gi a 9 j) : Mono a b := fun p t _ _ q => by rw [h]; exact q
theorem mo8 {σ0 σ : Sg} {p k : Nat} {st : Int32} (M : Mk σ0 σ) (hp : p < 4) (hk : k < 16) (hlv : tbI (gi σ0 5 p) k = true) : ∃ σ', c_markObject (Int32.ofNat p) (Int32.ofNat k) st σ = some σ' ∧ Mk σ0 σ' ∧ Mono σ σ' ∧ tbI (gi σ' 9 p) k = true := by
  have e0 : (0 : Int32).toInt = 0 := rfl
  have e1 : (1 : Int32).toInt = 1 := rfl
  have e16 : (16 : Int32).toInt = 16 := rfl
  have e256 : (256 : Int32).toInt = 256 := rfl
  have ep := ti_ofNat (n := p) (by omega)
  have ek := ti_ofNat (n := k) (by omega)
  obtain ⟨m1, m2, m3, m4, m5, m6⟩ := id M
  unfold c_markObject
  rw [if_neg (by rw [ti_lt]; omega), if_pos (by rw [ti_lt]; omega), if_pos (inbT (by omega) (show (Int32.ofNat p).toInt < ((16 : Nat) : Int) by omega)), nx_ofNat (by omega)]
  by_cases c : gi σ 9 p &&& bitI k = 0
  · rw [if_pos (show gi σ 9 p &&& ((1 : Int32) <<< (Int32.ofNat k &&& 31)) = 0 from c)]
    have hf := (and_bit (gi σ 9 p) (by omega)).mp c
    have hbo := bc_or hk hf
    obtain ⟨τ, hτ⟩ : ∃ τ, τ = si (si σ 9 p (gi σ 9 p ||| bitI k)) 0 17 (gi σ 0 17 + 1) := ⟨_, rfl⟩
    have y9 : ∀ j, gi τ 9 j = if j = p then gi σ 9 p ||| bitI k else gi σ 9 j := fun j => by
      rw [hτ, gi_si, if_neg (by simp), gi_si]
      by_cases d : j = p
      · rw [if_pos ⟨rfl, d⟩, if_pos d]
      · rw [if_neg (fun w => d w.2), if_neg d]
    have htot : tot τ 9 = tot σ 9 + 1 := by
      unfold tot
      rw [y9 0, y9 1, y9 2, y9 3]
      have : p = 0 ∨ p = 1 ∨ p = 2 ∨ p = 3 := by omega
      rcases this with rfl | rfl | rfl | rfl
      · rw [if_pos rfl, if_neg (by decide), if_neg (by decide), if_neg (by decide), hbo]; omega
      · rw [if_neg (by decide), if_pos rfl, if_neg (by decide), if_neg (by decide), hbo]; omega
      · rw [if_neg (by decide), if_neg (by decide), if_pos rfl, if_neg (by decide), hbo]; omega
      · rw [if_neg (by decide), if_neg (by decide), if_neg (by decide), if_pos rfl, hbo]; omega
    have y16 : gi τ 0 16 = gi σ 0 16 := by rw [hτ, gi_si, if_neg (by simp), gi_si, if_neg (by simp)]
    have Mτ : Mk σ0 τ := by
      refine ⟨fun kk j a b d => ?_, fun j a b d => ?_, fun q hq t ht h => ?_, ?_, by rw [y16]; exact m5, by rw [y16]; exact m6⟩
      · rw [hτ, gi_si, if_neg (fun w => a w.1), gi_si, if_neg (fun w => b w.1)]; exact m1 kk j a b d
      · rw [hτ, gi_si, if_neg (fun w => b w.2), gi_si, if_neg (by simp)]; exact m2 j a b d
      · rw [y9] at h
        by_cases d : q = p
        · rw [if_pos d, or_bit _ (by omega) ht] at h
          by_cases d2 : t = k
          · subst d2; rw [d]; exact ⟨hk, hlv⟩
          · rw [decide_eq_false d2, Bool.or_false] at h
            rw [d]; exact m3 p hp t ht h
        · rw [if_neg d] at h; exact m3 q hq t ht h
      · rw [hτ, gi_si, if_pos ⟨rfl, rfl⟩, ← hτ, m4, htot, ofNat_succ]
    have mono : ∀ τ' : Sg, (∀ j, gi τ' 9 j = gi τ 9 j) → Mono σ τ' ∧ tbI (gi τ' 9 p) k = true := fun τ' h => by
      refine ⟨fun q t hq ht hb => ?_, ?_⟩
      · rw [h, y9]
        by_cases d : q = p
        · rw [if_pos d, or_bit _ (by omega) ht]
          rw [d] at hb
          rw [hb]; rfl
        · rw [if_neg d]; exact hb
      · rw [h, y9, if_pos rfl, or_bit _ (by omega) (by omega), decide_eq_true (show k = k from rfl), Bool.or_true]
    show ∃ σ', (if gi σ 0 16 < 0 then some (si (si σ 9 p (gi σ 9 p ||| bitI k)) 0 17 (gi σ 0 17 + 1)) else if gi σ 0 16 < 256 then (if inb (gi σ 0 16) 256 = true then some (si (si (si (si σ 9 p (gi σ 9 p ||| bitI k)) 0 17 (gi σ 0 17 + 1)) 10 (nx (gi σ 0 16)) st) 0 16 (gi σ 0 16 + 1)) else none) else some (si (si σ 9 p (gi σ 9 p ||| bitI k)) 0 17 (gi σ 0 17 + 1))) = some σ' ∧ Mk σ0 σ' ∧ Mono σ σ' ∧ tbI (gi σ' 9 p) k = true
    rw [← hτ, if_neg (by rw [ti_lt]; omega)]
    by_cases d : gi σ 0 16 < 256
    · have d' := d
      rw [ti_lt] at d'
      rw [if_pos d, if_pos (inbT m5 (show (gi σ 0 16).toInt < ((256 : Nat) : Int) by omega))]
      have e : (gi σ 0 16 + 1).toInt = (gi σ 0 16).toInt + 1 := ti_add1 (by omega)
      refine ⟨_, rfl, Mτ.same (fun kk j a b => ?_) ?_ ?_, mono _ (fun j => by rw [gi_si, if_neg (by simp), gi_si, if_neg (by simp)])⟩
      · rw [gi_si, if_neg (fun w => (b w.1).1 w.2), gi_si, if_neg (fun w => a w.1)]
      · rw [gi_si, if_pos ⟨rfl, rfl⟩]; omega
      · rw [gi_si, if_pos ⟨rfl, rfl⟩]; omega
    · rw [if_neg d]; exact ⟨τ, rfl, Mτ, mono τ (fun _ => rfl)⟩
  · rw [if_neg (show ¬ gi σ 9 p &&& ((1 : Int32) <<< (Int32.ofNat k &&& 31)) = 0 from c)]
    refine ⟨σ, rfl, M, Mono.refl σ, ?_⟩
    cases e : tbI (gi σ 9 p) k with
    | true => rfl
    | false => exact absurd ((and_bit (gi σ 9 p) (by omega)).mpr e) c
theorem scan8 {σ0 σ : Sg} (H0 : Hp σ0) (M : Mk σ0 σ) (w : Int32) : ∃ σ', c_scanWord w σ = some σ' ∧ Mk σ0 σ' ∧ Mono σ σ' := by
  have Ok := M.okh H0
  have e0 : (0 : Int32).toInt = 0 := rfl
  unfold c_scanWord
  rw [p_pageOf w Ok, Option.bind_some]
  simp only []
  by_cases h : inH σ w = true
  · obtain ⟨b1, b2, b3, b4⟩ := inH_bd Ok h
    have hp : (Int32.ofNat (pgN w)).toInt = (pgN w : Int) := ti_ofNat (by omega)
    have e4 : (4 : Int32).toInt = 4 := rfl
    rw [M.2.1 10 (by decide) (by decide) (by decide), H0.1, e4] at b2
    rw [if_pos h, if_neg (show ¬ Int32.ofNat (pgN w) < 0 by rw [ti_lt]; omega)]
    obtain ⟨s1, hs1⟩ : ∃ s1, s1 = si σ 0 18 (gi σ 0 18 ||| (1 : Int32) <<< (Int32.ofNat (pgN w) &&& 31)) := ⟨_, rfl⟩
    rw [← hs1]
    have y : ∀ k j, ¬ (k = 0 ∧ j = 18) → gi s1 k j = gi σ k j := fun k j a => by rw [hs1, gi_si, if_neg a]
    have M1 : Mk σ0 s1 := M.same (fun k j _ b => y k j (fun q => (b q.1).2 q.2)) (by rw [y 0 16 (by decide)]; exact M.2.2.2.2.1) (by rw [y 0 16 (by decide)]; exact M.2.2.2.2.2)
    have Ok1 := M1.okh H0
    rw [p_find w Ok1, Option.bind_some]
    simp only []
    by_cases io : inO s1 w = true
    · have io' := io
      simp only [inO, Bool.and_eq_true, decide_eq_true_eq] at io'
      obtain ⟨⟨i1, i2⟩, i3⟩ := io'
      have hsl : slN s1 w < 16 := by
        have : slN s1 w ≤ wiN w := Nat.div_le_self _ _
        omega
      have hst : ¬ Int32.ofNat (stN s1 w) = 0 := by
        have h1 : slN s1 w * 2 ^ shN s1 (pgN w) ≤ wiN w := by unfold slN; exact Nat.div_mul_le_self _ _
        rw [ti_eq, ti_ofNat (by unfold stN; omega)]
        unfold stN
        omega
      have hlv : tbI (gi σ0 5 (pgN w)) (slN s1 w) = true := by
        simp only [lvB, decide_eq_true_eq] at i3
        rw [M1.1 5 (pgN w) (by decide) (by decide) (by decide)] at i3
        cases c : tbI (gi σ0 5 (pgN w)) (slN s1 w) with
        | true => rfl
        | false => exact absurd ((tb_iff _ (by omega)).mpr c) i3
      obtain ⟨s2, q2, M2, O2, -⟩ := mo8 (st := Int32.ofNat (stN s1 w)) M1 (by omega) hsl hlv
      rw [if_pos io, if_neg hst, p_slotOf Ok1 i1 i2, Option.bind_some]
      simp only []
      rw [q2, Option.bind_some]
      exact ⟨s2, rfl, M2, (Mono.same (fun j => y 9 j (by simp))).trans O2⟩
    · rw [if_neg io, if_pos rfl]
      exact ⟨s1, rfl, M1, Mono.same (fun j => y 9 j (by simp))⟩
  · rw [if_neg h, if_pos (show (-1 : Int32) < 0 by decide)]
    exact ⟨σ, rfl, M, Mono.refl σ⟩
theorem roots8 {σ0 : Sg} (H0 : Hp σ0) (k : Nat) : ∀ (i fuel : Nat) (σ : Sg), i + k = 32 → k < fuel → Mk σ0 σ → ∃ σ', c_markRoots_2 fuel (Int32.ofNat i) σ = some σ' ∧ Mk σ0 σ' ∧ Mono σ σ' := by
  have e32 : (32 : Int32).toInt = 32 := rfl
  induction k with
  | zero =>
    intro i fuel σ h1 h2 M
    obtain ⟨f, rfl⟩ : ∃ f, fuel = f + 1 := ⟨fuel - 1, by omega⟩
    have ei := ti_ofNat (n := i) (by omega)
    rw [c_markRoots_2]
    refine ⟨σ, ?_, M, Mono.refl σ⟩
    by_cases a : Int32.ofNat i < gi σ 0 12
    · rw [if_pos a, if_neg (by rw [ti_lt]; omega)]
    · rw [if_neg a]
  | succ k ih =>
    intro i fuel σ h1 h2 M
    obtain ⟨f, rfl⟩ : ∃ f, fuel = f + 1 := ⟨fuel - 1, by omega⟩
    have ei := ti_ofNat (n := i) (by omega)
    rw [c_markRoots_2]
    by_cases a : Int32.ofNat i < gi σ 0 12
    · rw [if_pos a, if_pos (by rw [ti_lt]; omega), if_pos (inbT (by omega) (show (Int32.ofNat i).toInt < ((32 : Nat) : Int) by omega))]
      obtain ⟨s1, q1, M1, O1⟩ := scan8 H0 M (gi σ 1 (nx (Int32.ofNat i)))
      rw [q1, Option.bind_some, ofNat_succ]
      obtain ⟨s2, q2, M2, O2⟩ := ih (i + 1) f s1 (by omega) (by omega) M1
      exact ⟨s2, q2, M2, O1.trans O2⟩
    · rw [if_neg a]; exact ⟨σ, rfl, M, Mono.refl σ⟩
theorem flds8 {σ0 : Sg} (H0 : Hp σ0) (sz b : Int32) (k : Nat) : ∀ (i fuel : Nat) (σ : Sg), i + k = 16 → k < fuel → Mk σ0 σ → ∃ σ', c_scanFields_28 fuel sz b (Int32.ofNat i) σ = some σ' ∧ Mk σ0 σ' ∧ Mono σ σ' := by
  have e16 : (16 : Int32).toInt = 16 := rfl
  have e0 : (0 : Int32).toInt = 0 := rfl
  have e256 : (256 : Int32).toInt = 256 := rfl
  induction k with
  | zero =>
    intro i fuel σ h1 h2 M
    obtain ⟨f, rfl⟩ : ∃ f, fuel = f + 1 := ⟨fuel - 1, by omega⟩
    have ei := ti_ofNat (n := i) (by omega)
    rw [c_scanFields_28]
    refine ⟨σ, ?_, M, Mono.refl σ⟩
    by_cases a : Int32.ofNat i < sz
    · rw [if_pos a, if_neg (by rw [ti_lt]; omega)]
    · rw [if_neg a]
  | succ k ih =>
    intro i fuel σ h1 h2 M
    obtain ⟨f, rfl⟩ : ∃ f, fuel = f + 1 := ⟨fuel - 1, by omega⟩
    have ei := ti_ofNat (n := i) (by omega)
    rw [c_scanFields_28]
    unfold c_scanFields_72
    by_cases a : Int32.ofNat i < sz
    · rw [if_pos a, if_pos (by rw [ti_lt]; omega), ofNat_succ]
      by_cases c1 : b + Int32.ofNat i < 0
      · rw [if_pos c1]; exact ih (i + 1) f σ (by omega) (by omega) M
      · rw [if_neg c1]
        by_cases c2 : b + Int32.ofNat i < 256
        · rw [if_pos c2]
          rw [ti_lt] at c1 c2
          rw [if_pos (inbT (by omega) (show (b + Int32.ofNat i).toInt < ((256 : Nat) : Int) by omega))]
          obtain ⟨s1, q1, M1, O1⟩ := scan8 H0 M (gi σ 2 (nx (b + Int32.ofNat i)))
          rw [q1, Option.bind_some]
          obtain ⟨s2, q2, M2, O2⟩ := ih (i + 1) f s1 (by omega) (by omega) M1
          exact ⟨s2, q2, M2, O1.trans O2⟩
        · rw [if_neg c2]; exact ih (i + 1) f σ (by omega) (by omega) M
    · rw [if_neg a]; exact ⟨σ, rfl, M, Mono.refl σ⟩
theorem drain8 {σ0 : Sg} (H0 : Hp σ0) (k : Nat) : ∀ (i fuel : Nat) (σ : Sg), i + k = 257 → k < fuel → Mk σ0 σ → ∃ σ', c_drainMarkStack_2 fuel (Int32.ofNat i) σ = some σ' ∧ Mk σ0 σ' ∧ Mono σ σ' := by
  have e0 : (0 : Int32).toInt = 0 := rfl
  have e1 : (1 : Int32).toInt = 1 := rfl
  have e256 : (256 : Int32).toInt = 256 := rfl
  induction k with
  | zero =>
    intro i fuel σ h1 h2 M
    obtain ⟨f, rfl⟩ : ∃ f, fuel = f + 1 := ⟨fuel - 1, by omega⟩
    have ei := ti_ofNat (n := i) (by omega)
    rw [c_drainMarkStack_2, if_pos (by rw [ti_lt]; omega)]
    exact ⟨σ, rfl, M, Mono.refl σ⟩
  | succ k ih =>
    intro i fuel σ h1 h2 M
    obtain ⟨f, rfl⟩ : ∃ f, fuel = f + 1 := ⟨fuel - 1, by omega⟩
    have ei := ti_ofNat (n := i) (by omega)
    rw [c_drainMarkStack_2, if_neg (by rw [ti_lt]; omega)]
    by_cases a : 0 < gi σ 0 16
    · have a' := a
      rw [ti_lt] at a'
      have m6 := M.2.2.2.2.2
      have es : (gi σ 0 16 - 1).toInt = (gi σ 0 16).toInt - 1 := by rw [ti_sub (by omega) (by omega), e1]
      rw [if_pos a, if_pos (inbT (by omega) (show (gi σ 0 16 - 1).toInt < ((256 : Nat) : Int) by omega))]
      have M1 : Mk σ0 (si σ 0 16 (gi σ 0 16 - 1)) := M.same (fun kk j x y => by rw [gi_si, if_neg (fun w => (y w.1).1 w.2)]) (by rw [gi_si, if_pos ⟨rfl, rfl⟩]; omega) (by rw [gi_si, if_pos ⟨rfl, rfl⟩]; omega)
      have fs : ∃ s2, c_scanFields (gi σ 10 (nx (gi σ 0 16 - 1))) (si σ 0 16 (gi σ 0 16 - 1)) = some s2 ∧ Mk σ0 s2 ∧ Mono (si σ 0 16 (gi σ 0 16 - 1)) s2 := by
        generalize gi σ 10 (nx (gi σ 0 16 - 1)) = st
        have Ok := M1.okh H0
        unfold c_scanFields
        rw [p_pageOf st Ok, Option.bind_some]
        simp only []
        by_cases h : inH (si σ 0 16 (gi σ 0 16 - 1)) st = true
        · obtain ⟨b1, b2, b3, b4⟩ := inH_bd Ok h
          have hp : (Int32.ofNat (pgN st)).toInt = (pgN st : Int) := ti_ofNat (by omega)
          rw [if_pos h, if_neg (show ¬ Int32.ofNat (pgN st) < 0 by rw [ti_lt]; omega), if_pos (inbT (by omega) (show (Int32.ofNat (pgN st)).toInt < ((16 : Nat) : Int) by omega))]
          exact flds8 H0 _ _ 16 0 400 _ (by omega) (by omega) M1
        · rw [if_neg h, if_pos (show (-1 : Int32) < 0 by decide)]
          exact ⟨_, rfl, M1, Mono.refl _⟩
      obtain ⟨s2, q2, M2, O2⟩ := fs
      rw [q2, Option.bind_some, ofNat_succ]
      obtain ⟨s3, q3, M3, O3⟩ := ih (i + 1) f s2 (by omega) (by omega) M2
      exact ⟨s3, q3, M3, ((Mono.same (fun j => by rw [gi_si, if_neg (by simp)])).trans O2).trans O3⟩
    · rw [if_neg a]; exact ⟨σ, rfl, M, Mono.refl σ⟩
theorem begin8 (σ : Sg) : ∃ σ', c_beginMark σ = some σ' ∧ Mk σ σ' := by
  have e16 : (16 : Int32).toInt = 16 := rfl
  have loop : ∀ (k i fuel : Nat) (τ : Sg), i + k = 16 → k < fuel → ∃ σ', c_beginMark_17 fuel (Int32.ofNat i) τ = some σ' ∧ (∀ kk j, kk ≠ 9 → gi σ' kk j = gi τ kk j) ∧ (∀ j, i ≤ j → j < 16 → gi σ' 9 j = 0) ∧ ∀ j, j < i → gi σ' 9 j = gi τ 9 j := by
    intro k
    induction k with
    | zero =>
      intro i fuel τ h1 h2
      obtain ⟨f, rfl⟩ : ∃ f, fuel = f + 1 := ⟨fuel - 1, by omega⟩
      have ei := ti_ofNat (n := i) (by omega)
      rw [c_beginMark_17, if_neg (by rw [ti_lt]; omega)]
      exact ⟨τ, rfl, fun _ _ _ => rfl, fun j a b => by omega, fun _ _ => rfl⟩
    | succ k ih =>
      intro i fuel τ h1 h2
      obtain ⟨f, rfl⟩ : ∃ f, fuel = f + 1 := ⟨fuel - 1, by omega⟩
      have ei := ti_ofNat (n := i) (by omega)
      rw [c_beginMark_17, if_pos (by rw [ti_lt]; omega), if_pos (inbT (by omega) (show (Int32.ofNat i).toInt < ((16 : Nat) : Int) by omega)), nx_ofNat (by omega), ofNat_succ]
      obtain ⟨σ', q, a, b, c⟩ := ih (i + 1) f (si τ 9 i 0) (by omega) (by omega)
      refine ⟨σ', q, fun kk j ne => by rw [a kk j ne, gi_si, if_neg (fun w => ne w.1)], fun j h3 h4 => ?_, fun j h3 => ?_⟩
      · by_cases e : j = i
        · subst e; rw [c j (by omega), gi_si, if_pos ⟨rfl, rfl⟩]
        · exact b j (by omega) h4
      · rw [c j (by omega), gi_si, if_neg (fun w => by omega)]
  obtain ⟨σ', q, a, b, -⟩ := loop 16 0 400 (si (si (si σ 0 16 0) 0 17 0) 0 18 0) (by omega) (by omega)
  have z16 : gi σ' 0 16 = 0 := by rw [a 0 16 (by decide)]; simp [gi_si]
  refine ⟨σ', q, fun k j h1 h2 h3 => ?_, fun j h1 h2 h3 => ?_, fun p hp t ht h => ?_, ?_, by rw [z16]; decide, by rw [z16]; decide⟩
  · rw [a k j h2, gi_si, if_neg (fun w => h1 w.1), gi_si, if_neg (fun w => h1 w.1), gi_si, if_neg (fun w => h1 w.1)]
  · rw [a 0 j (by decide), gi_si, if_neg (fun w => h3 w.2), gi_si, if_neg (fun w => h2 w.2), gi_si, if_neg (fun w => h1 w.2)]
  · rw [b p (by omega) (by omega), tbI_zero] at h; cases h
  · have : tot σ' 9 = 0 := by
      unfold tot
      rw [b 0 (by omega) (by omega), b 1 (by omega) (by omega), b 2 (by omega) (by omega), b 3 (by omega) (by omega), bc_0]
    rw [this, a 0 17 (by decide)]
    simp [gi_si]
/-! sweeping -/
theorem p_bc8 (m : Int32) (σ : Sg) : c_bitCount m σ = some (Int32.ofNat (bc m), σ) := by
  have e16 : (16 : Int32).toInt = 16 := rfl
  have loop : ∀ (k i fuel : Nat), i + k = 16 → k < fuel → c_bitCount_4 fuel m (Int32.ofNat (cntF (fun t => tbI m t) i)) (Int32.ofNat i) σ = some (Int32.ofNat (cntF (fun t => tbI m t) 16), σ) := by
    intro k
    induction k with
    | zero =>
      intro i fuel h1 h2
      obtain ⟨f, rfl⟩ : ∃ f, fuel = f + 1 := ⟨fuel - 1, by omega⟩
      have hi : i = 16 := by omega
      subst hi
      rw [c_bitCount_4, if_neg (by decide)]
    | succ k ih =>
      intro i fuel h1 h2
      obtain ⟨f, rfl⟩ : ∃ f, fuel = f + 1 := ⟨fuel - 1, by omega⟩
      have ei := ti_ofNat (n := i) (by omega)
      have z := ih (i + 1) f (by omega) (by omega)
      have hb := shr_bit m (i := i) (by omega)
      rw [c_bitCount_4, if_pos (by rw [ti_lt]; omega)]
      unfold c_bitCount_22
      by_cases c : tbI m i = true
      · rw [if_neg (fun q => by rw [hb.mp q] at c; cases c), ofNat_succ, ofNat_succ]
        rw [show cntF (fun t => tbI m t) (i + 1) = cntF (fun t => tbI m t) i + 1 by show cntF (fun t => tbI m t) i + (if tbI m i = true then 1 else 0) = _; rw [if_pos c]] at z
        exact z
      · have c' : tbI m i = false := by simpa using c
        rw [if_pos (hb.mpr c'), ofNat_succ]
        rw [show cntF (fun t => tbI m t) (i + 1) = cntF (fun t => tbI m t) i by show cntF (fun t => tbI m t) i + (if tbI m i = true then 1 else 0) = _; rw [if_neg c, Nat.add_zero]] at z
        exact z
  exact loop 16 0 400 (by omega) (by omega)
def Wv (σ0 m : Sg) (i : Nat) (σ : Sg) : Prop := gi σ 0 10 = 4 ∧ (∀ j, gi σ 1 j = gi σ0 1 j) ∧ (∀ j, j = 11 ∨ j = 12 → gi σ 0 j = gi σ0 0 j) ∧ gi σ 0 17 = gi m 0 17 ∧ (∀ j, gi σ 9 j = gi m 9 j) ∧ (∀ p, p < i → PgOk σ p ∧ gi σ 5 p = gi m 9 p) ∧ (∀ p k, i ≤ p → p < 4 → k = 3 ∨ k = 4 ∨ k = 5 ∨ k = 6 → gi σ k p = gi σ0 k p) ∧ (∀ p, 4 ≤ p → gi σ 3 p = 0) ∧ Lst σ
theorem sw8 {σ0 m σ : Sg} {p : Nat} (hp : p < 4) (H0 : Hp σ0) (M : Mk σ0 m) (W : Wv σ0 m p σ) : ∃ σ', c_sweepPage (Int32.ofNat p) σ = some σ' ∧ Wv σ0 m (p + 1) σ' := by
  obtain ⟨w10, w1, w0, w17, w9, wp, wq, w3, ⟨wl1, wl2⟩⟩ := W
  have ep := ti_ofNat (n := p) (by omega)
  have hip : inb (Int32.ofNat p) 16 = true := inbT (by omega) (show (Int32.ofNat p).toInt < ((16 : Nat) : Int) by omega)
  obtain ⟨kept, hk⟩ : ∃ kept, kept = gi σ 9 p := ⟨_, rfl⟩
  have tail : ∀ τ : Sg, (∀ k j, k = 0 ∨ k = 1 ∨ k = 8 ∨ k = 9 → gi τ k j = gi σ k j) → (∀ k j, j ≠ p → gi τ k j = gi σ k j) → PgOk τ p → gi τ 5 p = kept → ∃ σ', c_sweepPage_43 (Int32.ofNat p) kept τ = some σ' ∧ Wv σ0 m (p + 1) σ' := by
    intro τ t1 t2 tp t5
    have r : ∀ b : Int32, ∃ σ', c_sweepPage_78 (Int32.ofNat p) b (Int32.ofNat p) τ = some σ' ∧ Wv σ0 m (p + 1) σ' := by
      intro b
      unfold c_sweepPage_78
      rw [if_pos hip, nx_ofNat (by omega)]
      obtain ⟨τ', hτ⟩ : ∃ τ', τ' = si τ 7 p (b &&& 1) := ⟨_, rfl⟩
      rw [← hτ]
      have y : ∀ k j, k ≠ 7 → gi τ' k j = gi τ k j := fun k j ne => by rw [hτ, gi_si, if_neg (fun w => ne w.1)]
      have tp' : PgOk τ' p := tp.same (fun k hk => y k p (by omega))
      obtain ⟨σ', q, K, A, B⟩ := p_rfS hp (σ := τ') (by rw [y 0 10 (by decide), t1 0 10 (by omega)]; exact w10) (fun hc => by
        rcases tp' with ⟨z, -, -⟩ | ⟨s, hs, -, h, -⟩
        · exact absurd z hc
        · exact ⟨s, hs, h⟩)
      have z : ∀ k j, k ≠ 0 → k ≠ 8 → k ≠ 7 → j ≠ p → gi σ' k j = gi σ k j := fun k j a b c d => by rw [K.1 k j a b, y k j c, t2 k j d]
      have zz : ∀ k j, k = 1 ∨ k = 9 → gi σ' k j = gi σ k j := fun k j a => by rw [K.1 k j (by omega) (by omega), y k j (by omega), t1 k j (by omega)]
      have z0 : ∀ j, j ≠ 13 → gi σ' 0 j = gi σ 0 j := fun j a => by rw [K.2 j a, y 0 j (by decide), t1 0 j (by omega)]
      have zp : ∀ k, k = 3 ∨ k = 4 ∨ k = 5 ∨ k = 6 → gi σ' k p = gi τ k p := fun k a => by rw [K.1 k p (by omega) (by omega), y k p (by omega)]
      refine ⟨σ', by rw [q, Option.bind_some], ?_, fun j => ?_, fun j hj => ?_, ?_, fun j => ?_, fun q' hq => ?_, fun q' k h1 h2 h3 => ?_, fun q' hq => ?_, fun c t hc ht h => ?_, fun t ht h => ?_⟩
      · rw [z0 10 (by decide)]; exact w10
      · rw [zz 1 j (by omega)]; exact w1 j
      · rw [z0 j (by omega)]; exact w0 j hj
      · rw [z0 17 (by decide)]; exact w17
      · rw [zz 9 j (by omega)]; exact w9 j
      · by_cases e : q' = p
        · subst e
          refine ⟨tp.same zp, ?_⟩
          rw [zp 5 (by omega), t5, hk, w9]
        · obtain ⟨a, b'⟩ := wp q' (by omega)
          refine ⟨a.same (fun k hk => z k q' (by omega) (by omega) (by omega) e), ?_⟩
          rw [z 5 q' (by decide) (by decide) (by decide) e]; exact b'
      · rw [z k q' (by omega) (by omega) (by omega) (by omega)]
        exact wq q' k (by omega) h2 h3
      · rw [z 3 q' (by decide) (by decide) (by decide) (by omega)]; exact w3 q' hq
      · rcases A c t hc (by omega) h with ⟨h1, h2⟩ | ⟨h1, h2, h3⟩
        · rw [y 8 c (by decide), t1 8 c (by omega)] at h2
          rw [z 3 t (by decide) (by decide) (by decide) h1, z 4 t (by decide) (by decide) (by decide) h1]
          exact wl1 c t hc ht h2
        · subst h1
          rw [y 3 t (by decide)] at h2
          rw [y 4 t (by decide)] at h3
          rw [zp 3 (by omega), zp 4 (by omega)]
          exact ⟨hp, h2, h3⟩
      · rcases B t (by omega) h with ⟨h1, h2⟩ | ⟨h1, h2⟩
        · rw [y 0 13 (by decide), t1 0 13 (by omega)] at h2
          rw [z 3 t (by decide) (by decide) (by decide) h1]
          exact wl2 t ht h2
        · subst h1
          rw [y 3 t (by decide)] at h2
          rw [zp 3 (by omega)]
          exact h2
    unfold c_sweepPage_43 c_sweepPage_59 c_sweepPage_77
    by_cases a : (gi τ 0 18 >>> (Int32.ofNat p &&& 31)) &&& 1 = 0
    · rw [if_pos a]
      by_cases b : kept = 0
      · rw [if_pos b, if_pos rfl]; exact r 0
      · rw [if_neg b]; exact r 0
    · rw [if_neg a]
      by_cases b : kept = 0
      · rw [if_pos b, if_neg (show ¬ (1 : Int32) = 0 by decide)]; exact r 1
      · rw [if_neg b]; exact r 0
  have hlv : ∀ t, t < 32 → tbI kept t = true → t < 16 ∧ tbI (gi σ0 5 p) t = true := fun t ht h => M.2.2.1 p hp t ht (by rw [← w9, ← hk]; exact h)
  unfold c_sweepPage
  rw [if_pos hip, nx_ofNat (by omega), ← hk, p_bc8, Option.bind_some]
  simp only []
  by_cases c : kept = 0
  · rw [if_pos c]
    refine tail _ (fun k j a => ?_) (fun k j a => ?_) (Or.inl ⟨?_, ?_, ?_⟩) ?_
    · rw [gi_si, if_neg (by omega), gi_si, if_neg (by omega), gi_si, if_neg (by omega), gi_si, if_neg (by omega)]
    · rw [gi_si, if_neg (fun w => a w.2), gi_si, if_neg (fun w => a w.2), gi_si, if_neg (fun w => a w.2), gi_si, if_neg (fun w => a w.2)]
    · rw [gi_si, if_neg (by simp), gi_si, if_pos ⟨rfl, rfl⟩]
    · rw [gi_si, if_neg (by simp), gi_si, if_neg (by simp), gi_si, if_neg (by simp), gi_si, if_pos ⟨rfl, rfl⟩]; exact c
    · rw [gi_si, if_neg (by simp), gi_si, if_neg (by simp), gi_si, if_pos ⟨rfl, rfl⟩, c, bc_0]; rfl
    · rw [gi_si, if_neg (by simp), gi_si, if_neg (by simp), gi_si, if_neg (by simp), gi_si, if_pos ⟨rfl, rfl⟩]
  · rw [if_neg c]
    have v3 : gi σ 3 p = gi σ0 3 p := wq p 3 (Nat.le_refl p) hp (by omega)
    have v4 : gi σ 4 p = gi σ0 4 p := wq p 4 (Nat.le_refl p) hp (by omega)
    obtain ⟨t0, ht0, hb0⟩ := tbI_ne0 c
    obtain ⟨s, hs, d3, d4, d5, d6, d7⟩ : ∃ s, s ≤ 4 ∧ gi σ0 3 p = Int32.ofNat (2 ^ s) ∧ gi σ0 4 p = Int32.ofNat s ∧ gi σ0 5 p ≠ 0 ∧ (∀ t, 16 / 2 ^ s ≤ t → t < 32 → tbI (gi σ0 5 p) t = false) ∧ gi σ0 6 p = Int32.ofNat (bc (gi σ0 5 p)) := by
      rcases H0.2.1 p hp with ⟨-, z5, -⟩ | h
      · have := (hlv t0 ht0 hb0).2
        rw [z5, tbI_zero] at this; cases this
      · exact h
    refine tail _ (fun k j a => ?_) (fun k j a => ?_) (Or.inr ⟨s, hs, ?_, ?_, ?_, fun t h1 h2 => ?_, ?_⟩) ?_
    · rw [gi_si, if_neg (by omega), gi_si, if_neg (by omega)]
    · rw [gi_si, if_neg (fun w => a w.2), gi_si, if_neg (fun w => a w.2)]
    · rw [gi_si, if_neg (by simp), gi_si, if_neg (by simp), v3]; exact d3
    · rw [gi_si, if_neg (by simp), gi_si, if_neg (by simp), v4]; exact d4
    · rw [gi_si, if_neg (by simp), gi_si, if_pos ⟨rfl, rfl⟩]; exact c
    · rw [gi_si, if_neg (by simp), gi_si, if_pos ⟨rfl, rfl⟩]
      cases e : tbI kept t with
      | false => rfl
      | true =>
        have := (hlv t h2 e).2
        rw [d6 t h1 h2] at this; cases this
    · rw [gi_si, if_pos ⟨rfl, rfl⟩, gi_si, if_neg (by simp), gi_si, if_pos ⟨rfl, rfl⟩]
    · rw [gi_si, if_neg (by simp), gi_si, if_pos ⟨rfl, rfl⟩]
theorem sweep8 {σ0 m : Sg} (H0 : Hp σ0) (M : Mk σ0 m) (k : Nat) : ∀ (p fuel : Nat) (σ : Sg), p + k = 4 → k < fuel → Wv σ0 m p σ → ∃ s, c_sweepAll_7 fuel (Int32.ofNat p) σ = some (si s 0 15 (gi s 0 17)) ∧ Wv σ0 m 4 s := by
  have e4 : (4 : Int32).toInt = 4 := rfl
  have e16 : (16 : Int32).toInt = 16 := rfl
  induction k with
  | zero =>
    intro p fuel σ h1 h2 W
    obtain ⟨f, rfl⟩ : ∃ f, fuel = f + 1 := ⟨fuel - 1, by omega⟩
    have hp4 : p = 4 := by omega
    subst hp4
    rw [c_sweepAll_7, W.1, if_neg (by decide)]
    exact ⟨σ, rfl, W⟩
  | succ k ih =>
    intro p fuel σ h1 h2 W
    obtain ⟨f, rfl⟩ : ∃ f, fuel = f + 1 := ⟨fuel - 1, by omega⟩
    have ep := ti_ofNat (n := p) (by omega)
    obtain ⟨s1, q1, W1⟩ := sw8 (by omega : p < 4) H0 M W
    rw [c_sweepAll_7, W.1, if_pos (by rw [ti_lt]; omega), if_pos (by rw [ti_lt]; omega), q1, Option.bind_some, if_pos (inbT (by omega) (show (Int32.ofNat p).toInt < ((16 : Nat) : Int) by omega)), nx_ofNat (by omega)]
    unfold c_sweepAll_47
    rw [ofNat_succ]
    by_cases c : gi s1 7 p = 0
    · rw [if_pos c]
      exact ih (p + 1) f s1 (by omega) (by omega) W1
    · rw [if_neg c]
      refine ih (p + 1) f _ (by omega) (by omega) ?_
      obtain ⟨w10, w1, w0, w17, w9, wp, wq, w3, ⟨wl1, wl2⟩⟩ := W1
      generalize gi s1 0 14 ||| (1 : Int32) <<< (Int32.ofNat p &&& 31) = b
      have y : ∀ k j, ¬ (k = 0 ∧ j = 14) → gi (si s1 0 14 b) k j = gi s1 k j := fun k j a => by rw [gi_si, if_neg a]
      refine ⟨by rw [y 0 10 (by decide)]; exact w10, fun j => by rw [y 1 j (by simp)]; exact w1 j, fun j hj => by rw [y 0 j (by omega)]; exact w0 j hj, by rw [y 0 17 (by decide)]; exact w17, fun j => by rw [y 9 j (by simp)]; exact w9 j, fun q hq => ?_, fun q kk a b' d => by rw [y kk q (by omega)]; exact wq q kk a b' d, fun q hq => by rw [y 3 q (by simp)]; exact w3 q hq, fun cc t hc ht h => ?_, fun t ht h => ?_⟩
      · obtain ⟨a, b'⟩ := wp q hq
        exact ⟨a.same (fun kk hkk => y kk q (by omega)), by rw [y 5 q (by simp)]; exact b'⟩
      · rw [y 8 cc (by simp)] at h
        rw [y 3 t (by simp), y 4 t (by simp)]
        exact wl1 cc t hc ht h
      · rw [y 0 13 (by decide)] at h
        rw [y 3 t (by simp)]
        exact wl2 t ht h
theorem coll8 {σ : Sg} (H : Hp σ) : ∃ f s, c_collect σ = some (Int32.ofNat f, s) ∧ f ≤ tot σ 5 ∧ tot s 5 = tot σ 5 - f ∧ Hp s ∧ (∀ j, gi s 1 j = gi σ 1 j) ∧ ∀ j, j = 11 ∨ j = 12 → gi s 0 j = gi σ 0 j := by
  obtain ⟨m1, q1, M1⟩ := begin8 σ
  obtain ⟨m2, q2, M2, -⟩ := roots8 H 32 0 400 m1 (by omega) (by omega) M1
  obtain ⟨m3, q3, M3, -⟩ := drain8 H 257 0 400 m2 (by omega) (by omega) M2
  have W0 : Wv σ m3 0 (si m3 0 14 0) := by
    obtain ⟨a, b, c, d, e, f⟩ := M3
    have y : ∀ k j, ¬ (k = 0 ∧ j = 14) → gi (si m3 0 14 0) k j = gi m3 k j := fun k j a => by rw [gi_si, if_neg a]
    refine ⟨by rw [y 0 10 (by decide), b 10 (by decide) (by decide) (by decide)]; exact H.1, fun j => by rw [y 1 j (by simp)]; exact a 1 j (by decide) (by decide) (by decide), fun j hj => by rw [y 0 j (by omega)]; exact b j (by omega) (by omega) (by omega), y 0 17 (by decide), fun j => y 9 j (by simp), fun p hp => by omega, fun p k h1 h2 h3 => by rw [y k p (by omega)]; exact a k p (by omega) (by omega) (by omega), fun p hp => by rw [y 3 p (by simp), a 3 p (by decide) (by decide) (by decide)]; exact H.2.2.1 p hp, fun cc t hc ht h => ?_, fun t ht h => ?_⟩
    · rw [y 8 cc (by simp), a 8 cc (by decide) (by decide) (by decide)] at h
      rw [y 3 t (by simp), y 4 t (by simp), a 3 t (by decide) (by decide) (by decide), a 4 t (by decide) (by decide) (by decide)]
      exact H.2.2.2.1.1 cc t hc ht h
    · rw [y 0 13 (by decide), b 13 (by decide) (by decide) (by decide)] at h
      rw [y 3 t (by simp), a 3 t (by decide) (by decide) (by decide)]
      exact H.2.2.2.1.2 t ht h
  obtain ⟨s, q4, W⟩ := sweep8 H M3 4 0 400 _ (by omega) (by omega) W0
  have l1 := tot_le σ 5
  have l2 := tot_le m3 9
  have hle : tot m3 9 ≤ tot σ 5 := by
    have one : ∀ p, p < 4 → bc (gi m3 9 p) ≤ bc (gi σ 5 p) := fun p hp => cntF_mono fun t ht h => (M3.2.2.1 p hp t (by omega) h).2
    have a := one 0 (by decide)
    have b := one 1 (by decide)
    have c := one 2 (by decide)
    have d := one 3 (by decide)
    unfold tot
    omega
  obtain ⟨w10, w1, w0, w17, w9, wp, wq, w3, ⟨wl1, wl2⟩⟩ := W
  have y : ∀ k j, ¬ (k = 0 ∧ j = 15) → gi (si s 0 15 (gi s 0 17)) k j = gi s k j := fun k j a => by rw [gi_si, if_neg a]
  have ht : tot (si s 0 15 (gi s 0 17)) 5 = tot m3 9 := by
    unfold tot
    rw [y 5 0 (by simp), y 5 1 (by simp), y 5 2 (by simp), y 5 3 (by simp), (wp 0 (by decide)).2, (wp 1 (by decide)).2, (wp 2 (by decide)).2, (wp 3 (by decide)).2]
  refine ⟨tot σ 5 - tot m3 9, si s 0 15 (gi s 0 17), ?_, by omega, by omega, ⟨by rw [y 0 10 (by decide)]; exact w10, fun p hp => ((wp p hp).1).same (fun k hk => y k p (by omega)), fun p hp => by rw [y 3 p (by simp)]; exact w3 p hp, ⟨fun cc t hc ht h => ?_, fun t ht h => ?_⟩, ?_⟩, fun j => by rw [y 1 j (by simp)]; exact w1 j, fun j hj => by rw [y 0 j (by omega)]; exact w0 j hj⟩
  · have b1 : c_markRoots m1 = some m2 := q2
    have b2 : c_drainMarkStack m2 = some m3 := q3
    have b3 : c_sweepAll m3 = some (si s 0 15 (gi s 0 17)) := q4
    unfold c_collect
    rw [q1, Option.bind_some, b1, Option.bind_some, b2, Option.bind_some, b3, Option.bind_some]
    have e1 := ti_ofNat (n := tot σ 5) (by omega)
    have e2 := ti_ofNat (n := tot m3 9) (by omega)
    have : gi m3 0 15 - gi m3 0 17 = Int32.ofNat (tot σ 5 - tot m3 9) := by
      rw [M3.2.1 15 (by decide) (by decide) (by decide), H.2.2.2.2, M3.2.2.2.1]
      refine eq_ofNat ?_
      rw [ti_sub (by omega) (by omega), e1, e2]; omega
    rw [this]
  · rw [y 8 cc (by simp)] at h
    rw [y 3 t (by simp), y 4 t (by simp)]
    exact wl1 cc t hc ht h
  · rw [y 0 13 (by decide)] at h
    rw [y 3 t (by simp)]
    exact wl2 t ht h
  · rw [ht, gi_si, if_pos ⟨rfl, rfl⟩, w17, M3.2.2.2.1]
/-! ConservativeBiY: a second collection does what the first did -/
def bk (m : Sg) (p : Nat) : Int32 := if gi m 9 p = 0 then (if (gi m 0 18 >>> (Int32.ofNat p &&& 31)) &&& 1 = 0 then 0 else 1) else 0
def Wx (σ0 m : Sg) (i : Nat) (σ : Sg) : Prop := (∀ j, gi σ 2 j = gi σ0 2 j) ∧ gi σ 0 18 = gi m 0 18 ∧ (∀ j, gi σ 9 j = gi m 9 j) ∧ (∀ p k, i ≤ p → k = 3 ∨ k = 4 → gi σ k p = gi σ0 k p) ∧ gi σ 0 10 = 4 ∧ ∀ p, p < i → gi σ 3 p = (if gi m 9 p = 0 then 0 else gi σ0 3 p) ∧ gi σ 4 p = (if gi m 9 p = 0 then 0 else gi σ0 4 p) ∧ gi σ 6 p = Int32.ofNat (bc (gi m 9 p)) ∧ gi σ 7 p = bk m p
theorem sw9 {σ0 m σ : Sg} {p : Nat} (hp : p < 4) (W : Wx σ0 m p σ) : ∃ σ', c_sweepPage (Int32.ofNat p) σ = some σ' ∧ Wx σ0 m (p + 1) σ' := by
  obtain ⟨w2, w18, w9, wq, w10, wp⟩ := W
  have ep := ti_ofNat (n := p) (by omega)
  have hip : inb (Int32.ofNat p) 16 = true := inbT (by omega) (show (Int32.ofNat p).toInt < ((16 : Nat) : Int) by omega)
  obtain ⟨kept, hk⟩ : ∃ kept, kept = gi m 9 p := ⟨_, rfl⟩
  have tail : ∀ τ : Sg, (∀ k j, k = 0 ∨ k = 2 ∨ k = 9 → gi τ k j = gi σ k j) → (∀ k j, j ≠ p → gi τ k j = gi σ k j) → gi τ 3 p = (if gi m 9 p = 0 then 0 else gi σ0 3 p) → gi τ 4 p = (if gi m 9 p = 0 then 0 else gi σ0 4 p) → gi τ 6 p = Int32.ofNat (bc (gi m 9 p)) → ∃ σ', c_sweepPage_43 (Int32.ofNat p) kept τ = some σ' ∧ Wx σ0 m (p + 1) σ' := by
    intro τ t1 t2 t3 t4 t6
    have r : ∀ b : Int32, b &&& 1 = bk m p → ∃ σ', c_sweepPage_78 (Int32.ofNat p) b (Int32.ofNat p) τ = some σ' ∧ Wx σ0 m (p + 1) σ' := by
      intro b hb
      unfold c_sweepPage_78
      rw [if_pos hip, nx_ofNat (by omega), hb]
      obtain ⟨τ', hτ⟩ : ∃ τ', τ' = si τ 7 p (bk m p) := ⟨_, rfl⟩
      rw [← hτ]
      have y : ∀ k j, k ≠ 7 → gi τ' k j = gi τ k j := fun k j ne => by rw [hτ, gi_si, if_neg (fun w => ne w.1)]
      obtain ⟨σ', q, K⟩ := p_rf (Int32.ofNat p) τ' (by omega) (by omega)
      have z : ∀ k j, k ≠ 0 → k ≠ 8 → j ≠ p → gi σ' k j = gi σ k j := fun k j a b d => by
        rw [K.1 k j a b, hτ, gi_si, if_neg (fun w => d w.2), t2 k j d]
      have zz : ∀ k j, k = 2 ∨ k = 9 → gi σ' k j = gi σ k j := fun k j a => by rw [K.1 k j (by omega) (by omega), y k j (by omega), t1 k j (by omega)]
      have z0 : ∀ j, j ≠ 13 → gi σ' 0 j = gi σ 0 j := fun j a => by rw [K.2 j a, y 0 j (by decide), t1 0 j (by omega)]
      refine ⟨σ', by rw [q, Option.bind_some], fun j => by rw [zz 2 j (by omega)]; exact w2 j, by rw [z0 18 (by decide)]; exact w18, fun j => by rw [zz 9 j (by omega)]; exact w9 j, fun q' k h1 h2 => by rw [z k q' (by omega) (by omega) (by omega)]; exact wq q' k (by omega) h2, by rw [z0 10 (by decide)]; exact w10, fun q' hq => ?_⟩
      by_cases e : q' = p
      · subst e
        rw [K.1 3 q' (by decide) (by decide), K.1 4 q' (by decide) (by decide), K.1 6 q' (by decide) (by decide), K.1 7 q' (by decide) (by decide), y 3 q' (by decide), y 4 q' (by decide), y 6 q' (by decide)]
        refine ⟨t3, t4, t6, ?_⟩
        rw [hτ, gi_si, if_pos ⟨rfl, rfl⟩]
      · rw [z 3 q' (by decide) (by decide) e, z 4 q' (by decide) (by decide) e, z 6 q' (by decide) (by decide) e, z 7 q' (by decide) (by decide) e]
        exact wp q' (by omega)
    have h18 : gi τ 0 18 = gi m 0 18 := by rw [t1 0 18 (by omega)]; exact w18
    unfold c_sweepPage_43 c_sweepPage_59 c_sweepPage_77
    rw [h18]
    by_cases a : (gi m 0 18 >>> (Int32.ofNat p &&& 31)) &&& 1 = 0
    · rw [if_pos a]
      by_cases b : kept = 0
      · rw [if_pos b, if_pos rfl]; exact r 0 (by unfold bk; rw [← hk, if_pos b, if_pos a]; decide)
      · rw [if_neg b]; exact r 0 (by unfold bk; rw [← hk, if_neg b]; decide)
    · rw [if_neg a]
      by_cases b : kept = 0
      · rw [if_pos b, if_neg (show ¬ (1 : Int32) = 0 by decide)]; exact r 1 (by unfold bk; rw [← hk, if_pos b, if_neg a]; decide)
      · rw [if_neg b]; exact r 0 (by unfold bk; rw [← hk, if_neg b]; decide)
  have hk9 : gi σ 9 p = kept := by rw [w9, hk]
  unfold c_sweepPage
  rw [if_pos hip, nx_ofNat (by omega), hk9, p_bc8, Option.bind_some]
  simp only []
  by_cases c : kept = 0
  · rw [if_pos c]
    refine tail _ (fun k j a => ?_) (fun k j a => ?_) ?_ ?_ ?_
    · rw [gi_si, if_neg (by omega), gi_si, if_neg (by omega), gi_si, if_neg (by omega), gi_si, if_neg (by omega)]
    · rw [gi_si, if_neg (fun w => a w.2), gi_si, if_neg (fun w => a w.2), gi_si, if_neg (fun w => a w.2), gi_si, if_neg (fun w => a w.2)]
    · rw [gi_si, if_neg (by simp), gi_si, if_pos ⟨rfl, rfl⟩, ← hk, if_pos c]
    · rw [gi_si, if_pos ⟨rfl, rfl⟩, ← hk, if_pos c]
    · rw [gi_si, if_neg (by simp), gi_si, if_neg (by simp), gi_si, if_pos ⟨rfl, rfl⟩, hk]
  · rw [if_neg c]
    refine tail _ (fun k j a => ?_) (fun k j a => ?_) ?_ ?_ ?_
    · rw [gi_si, if_neg (by omega), gi_si, if_neg (by omega)]
    · rw [gi_si, if_neg (fun w => a w.2), gi_si, if_neg (fun w => a w.2)]
    · rw [gi_si, if_neg (by simp), gi_si, if_neg (by simp), ← hk, if_neg c]; exact wq p 3 (Nat.le_refl p) (Or.inl rfl)
    · rw [gi_si, if_neg (by simp), gi_si, if_neg (by simp), ← hk, if_neg c]; exact wq p 4 (Nat.le_refl p) (Or.inr rfl)
    · rw [gi_si, if_pos ⟨rfl, rfl⟩, hk]
theorem sweep9 {σ0 m : Sg} (k : Nat) : ∀ (p fuel : Nat) (σ s : Sg), p + k = 4 → k < fuel → Wx σ0 m p σ → c_sweepAll_7 fuel (Int32.ofNat p) σ = some s → Wx σ0 m 4 s := by
  have e4 : (4 : Int32).toInt = 4 := rfl
  have e16 : (16 : Int32).toInt = 16 := rfl
  induction k with
  | zero =>
    intro p fuel σ s h1 h2 W h
    obtain ⟨f, rfl⟩ : ∃ f, fuel = f + 1 := ⟨fuel - 1, by omega⟩
    have hp4 : p = 4 := by omega
    subst hp4
    rw [c_sweepAll_7, W.2.2.2.2.1, if_neg (by decide)] at h
    unfold c_sweepAll_53 at h
    cases h
    obtain ⟨w2, w18, w9, wq, w10, wp⟩ := W
    have y : ∀ k j, ¬ (k = 0 ∧ j = 15) → gi (si σ 0 15 (gi σ 0 17)) k j = gi σ k j := fun k j a => by rw [gi_si, if_neg a]
    refine ⟨fun j => by rw [y 2 j (by simp)]; exact w2 j, by rw [y 0 18 (by decide)]; exact w18, fun j => by rw [y 9 j (by simp)]; exact w9 j, fun q kk a b => by rw [y kk q (by omega)]; exact wq q kk a b, by rw [y 0 10 (by decide)]; exact w10, fun q hq => ?_⟩
    rw [y 3 q (by simp), y 4 q (by simp), y 6 q (by simp), y 7 q (by simp)]
    exact wp q hq
  | succ k ih =>
    intro p fuel σ s h1 h2 W h
    obtain ⟨f, rfl⟩ : ∃ f, fuel = f + 1 := ⟨fuel - 1, by omega⟩
    have ep := ti_ofNat (n := p) (by omega)
    obtain ⟨s1, q1, W1⟩ := sw9 (by omega : p < 4) W
    rw [c_sweepAll_7, W.2.2.2.2.1, if_pos (by rw [ti_lt]; omega), if_pos (by rw [ti_lt]; omega), q1, Option.bind_some, if_pos (inbT (by omega) (show (Int32.ofNat p).toInt < ((16 : Nat) : Int) by omega)), nx_ofNat (by omega)] at h
    unfold c_sweepAll_47 at h
    rw [ofNat_succ] at h
    by_cases c : gi s1 7 p = 0
    · rw [if_pos c] at h
      exact ih (p + 1) f s1 s (by omega) (by omega) W1 h
    · rw [if_neg c] at h
      refine ih (p + 1) f _ s (by omega) (by omega) ?_ h
      obtain ⟨w2, w18, w9, wq, w10, wp⟩ := W1
      generalize gi s1 0 14 ||| (1 : Int32) <<< (Int32.ofNat p &&& 31) = b
      have y : ∀ k j, ¬ (k = 0 ∧ j = 14) → gi (si s1 0 14 b) k j = gi s1 k j := fun k j a => by rw [gi_si, if_neg a]
      refine ⟨fun j => by rw [y 2 j (by simp)]; exact w2 j, by rw [y 0 18 (by decide)]; exact w18, fun j => by rw [y 9 j (by simp)]; exact w9 j, fun q kk a b => by rw [y kk q (by omega)]; exact wq q kk a b, by rw [y 0 10 (by decide)]; exact w10, fun q hq => ?_⟩
      rw [y 3 q (by simp), y 4 q (by simp), y 6 q (by simp), y 7 q (by simp)]
      exact wp q hq
/-- the state behind a collection, by its marks -/
def Bs (σ0 m s : Sg) : Prop := Hp σ0 ∧ Hp s ∧ Mk σ0 m ∧ (∀ j, gi s 1 j = gi σ0 1 j) ∧ (∀ j, gi s 2 j = gi σ0 2 j) ∧ gi s 0 12 = gi σ0 0 12 ∧ ∀ p, p < 4 → gi s 5 p = gi m 9 p ∧ gi s 3 p = (if gi m 9 p = 0 then 0 else gi σ0 3 p) ∧ gi s 4 p = (if gi m 9 p = 0 then 0 else gi σ0 4 p)
def Rm (σ τ : Sg) : Prop := (∀ j, j = 16 ∨ j = 17 ∨ j = 18 → gi τ 0 j = gi σ 0 j) ∧ (∀ p, p < 4 → gi τ 9 p = gi σ 9 p) ∧ ∀ j : Nat, (j : Int) < (gi σ 0 16).toInt → gi τ 10 j = gi σ 10 j
theorem inH_eq {σ0 s σ τ : Sg} (H0 : Hp σ0) (Hs : Hp s) (A : Mk σ0 σ) (B : Mk s τ) (w : Int32) : inH τ w = inH σ w := by
  unfold inH
  rw [A.2.1 10 (by decide) (by decide) (by decide), B.2.1 10 (by decide) (by decide) (by decide), H0.1, Hs.1]
theorem hdr {σ0 m s σ τ : Sg} (b : Bs σ0 m s) (A : Mk σ0 σ) (B : Mk s τ) {p : Nat} (hp : p < 4) (h : gi m 9 p ≠ 0) : gi τ 3 p = gi σ 3 p ∧ gi τ 4 p = gi σ 4 p ∧ gi τ 5 p = gi m 9 p := by
  obtain ⟨-, -, -, -, -, -, bh⟩ := b
  obtain ⟨h5, h3, h4⟩ := bh p hp
  rw [A.1 3 p (by decide) (by decide) (by decide), A.1 4 p (by decide) (by decide) (by decide), B.1 3 p (by decide) (by decide) (by decide), B.1 4 p (by decide) (by decide) (by decide), B.1 5 p (by decide) (by decide) (by decide), h3, h4, h5, if_neg h, if_neg h]
  exact ⟨rfl, rfl, rfl⟩
theorem pg4 {σ0 σ : Sg} (H0 : Hp σ0) (A : Mk σ0 σ) {w : Int32} (h : inH σ w = true) : pgN w < 4 ∧ wiN w < 16 ∧ w.toInt = 4096 + 16 * (pgN w : Int) + wiN w := by
  obtain ⟨b1, b2, b3, b4⟩ := inH_bd (A.okh H0) h
  have e4 : (4 : Int32).toInt = 4 := rfl
  rw [A.2.1 10 (by decide) (by decide) (by decide), H0.1, e4] at b2
  exact ⟨by omega, b4, b3⟩
theorem fndA {σ0 m s σ τ : Sg} (b : Bs σ0 m s) (A : Mk σ0 σ) (B : Mk s τ) {w : Int32} (io : inO σ w = true) (hb : tbI (gi m 9 (pgN w)) (slN σ w) = true) : inO τ w = true ∧ slN τ w = slN σ w ∧ stN τ w = stN σ w := by
  have io' := io
  simp only [inO, Bool.and_eq_true, decide_eq_true_eq] at io'
  obtain ⟨⟨i1, i2⟩, i3⟩ := io'
  obtain ⟨p4, w16, -⟩ := pg4 b.1 A i1
  have hne : gi m 9 (pgN w) ≠ 0 := fun q => by rw [q, tbI_zero] at hb; cases hb
  obtain ⟨h3, h4, h5⟩ := hdr b A B p4 hne
  have hsh : shN τ (pgN w) = shN σ (pgN w) := by unfold shN; rw [h4]
  have hsl : slN τ w = slN σ w := by unfold slN; rw [hsh]
  have hlt : slN σ w ≤ wiN w := Nat.div_le_self _ _
  refine ⟨?_, hsl, by unfold stN; rw [hsl, hsh]⟩
  simp only [inO, Bool.and_eq_true, decide_eq_true_eq]
  refine ⟨⟨by rw [inH_eq b.1 b.2.1 A B]; exact i1, by rw [h3]; exact i2⟩, ?_⟩
  simp only [lvB, decide_eq_true_eq]
  rw [hsl, h5]
  intro q
  rw [(tb_iff _ (by omega)).mp q] at hb
  cases hb
theorem fndB {σ0 m s σ τ : Sg} (b : Bs σ0 m s) (A : Mk σ0 σ) (B : Mk s τ) {w : Int32} (io : inO τ w = true) : inO σ w = true := by
  have io' := io
  simp only [inO, Bool.and_eq_true, decide_eq_true_eq] at io'
  obtain ⟨⟨i1, i2⟩, i3⟩ := io'
  have i1' : inH σ w = true := by rw [← inH_eq b.1 b.2.1 A B]; exact i1
  obtain ⟨p4, w16, -⟩ := pg4 b.1 A i1'
  have hne : gi m 9 (pgN w) ≠ 0 := fun q => by
    apply i2
    rw [B.1 3 _ (by decide) (by decide) (by decide), (b.2.2.2.2.2.2 _ p4).2.1, if_pos q]
  obtain ⟨h3, h4, h5⟩ := hdr b A B p4 hne
  have hsh : shN τ (pgN w) = shN σ (pgN w) := by unfold shN; rw [h4]
  have hsl : slN τ w = slN σ w := by unfold slN; rw [hsh]
  have hlt : slN σ w ≤ wiN w := Nat.div_le_self _ _
  simp only [inO, Bool.and_eq_true, decide_eq_true_eq]
  refine ⟨⟨i1', by rw [← h3]; exact i2⟩, ?_⟩
  simp only [lvB, decide_eq_true_eq] at i3 ⊢
  rw [hsl, h5] at i3
  rw [A.1 5 _ (by decide) (by decide) (by decide)]
  have hb : tbI (gi m 9 (pgN w)) (slN σ w) = true := by
    cases c : tbI (gi m 9 (pgN w)) (slN σ w) with
    | true => rfl
    | false => exact absurd ((tb_iff _ (by omega)).mpr c) i3
  have := (b.2.2.1.2.2.1 _ p4 _ (by omega) hb).2
  intro q
  rw [(tb_iff _ (by omega)).mp q] at this
  cases this
theorem g9a (ρ : Sg) (p q Z : Nat) (X Y st W : Int32) : gi (si (si (si (si ρ 9 p X) 0 17 Y) 10 Z st) 0 16 W) 9 q = if q = p then X else gi ρ 9 q := by simp [gi_si]
theorem g10a (ρ : Sg) (p q Z : Nat) (X Y st W : Int32) : gi (si (si (si (si ρ 9 p X) 0 17 Y) 10 Z st) 0 16 W) 10 q = if q = Z then st else gi ρ 10 q := by simp [gi_si]
theorem g9b (ρ : Sg) (p q : Nat) (X Y : Int32) : gi (si (si ρ 9 p X) 0 17 Y) 9 q = if q = p then X else gi ρ 9 q := by simp [gi_si]
theorem g10b (ρ : Sg) (p q : Nat) (X Y : Int32) : gi (si (si ρ 9 p X) 0 17 Y) 10 q = gi ρ 10 q := by simp [gi_si]
theorem mo9 {σ τ : Sg} (R : Rm σ τ) (h0 : 0 ≤ (gi σ 0 16).toInt) {p k : Nat} (hp : p < 4) (hk : k < 16) (st : Int32) {σ' : Sg} (q : c_markObject (Int32.ofNat p) (Int32.ofNat k) st σ = some σ') : ∃ τ', c_markObject (Int32.ofNat p) (Int32.ofNat k) st τ = some τ' ∧ Rm σ' τ' := by
  have e0 : (0 : Int32).toInt = 0 := rfl
  have e16 : (16 : Int32).toInt = 16 := rfl
  have e256 : (256 : Int32).toInt = 256 := rfl
  have ep := ti_ofNat (n := p) (by omega)
  have ek := ti_ofNat (n := k) (by omega)
  obtain ⟨r1, r2, r3⟩ := R
  unfold c_markObject at q ⊢
  rw [if_neg (by rw [ti_lt]; omega), if_pos (by rw [ti_lt]; omega), if_pos (inbT (by omega) (show (Int32.ofNat p).toInt < ((16 : Nat) : Int) by omega)), nx_ofNat (by omega)] at q ⊢
  rw [r2 p hp, r1 16 (by omega), r1 17 (by omega)]
  by_cases c : gi σ 9 p &&& ((1 : Int32) <<< (Int32.ofNat k &&& 31)) = 0
  · rw [if_pos c] at q ⊢
    rw [if_neg (by rw [ti_lt]; omega)] at q ⊢
    by_cases d : gi σ 0 16 < 256
    · have d' := d
      rw [ti_lt] at d'
      rw [if_pos d, if_pos (inbT h0 (show (gi σ 0 16).toInt < ((256 : Nat) : Int) by omega))] at q ⊢
      have e1 : (gi σ 0 16 + 1).toInt = (gi σ 0 16).toInt + 1 := ti_add1 (by omega)
      cases q
      refine ⟨_, rfl, fun j hj => ?_, fun q' hq => ?_, fun j hj => ?_⟩
      · rcases hj with rfl | rfl | rfl
        · simp [gi_si]
        · simp [gi_si]
        · simp [gi_si]; exact r1 18 (by omega)
      · rw [g9a, g9a]
        by_cases e : q' = p
        · rw [if_pos e, if_pos e]
        · rw [if_neg e, if_neg e]; exact r2 q' hq
      · rw [gi_si, if_pos ⟨rfl, rfl⟩] at hj
        rw [g10a, g10a]
        by_cases e : j = nx (gi σ 0 16)
        · rw [if_pos e, if_pos e]
        · rw [if_neg e, if_neg e]
          refine r3 j ?_
          unfold nx at e
          omega
    · rw [if_neg d] at q ⊢
      cases q
      refine ⟨_, rfl, fun j hj => ?_, fun q' hq => ?_, fun j hj => ?_⟩
      · rcases hj with rfl | rfl | rfl
        · simp [gi_si]; exact r1 16 (by omega)
        · simp [gi_si]
        · simp [gi_si]; exact r1 18 (by omega)
      · rw [g9b, g9b]
        by_cases e : q' = p
        · rw [if_pos e, if_pos e]
        · rw [if_neg e, if_neg e]; exact r2 q' hq
      · rw [gi_si, if_neg (by simp), gi_si, if_neg (by simp)] at hj
        rw [g10b, g10b]
        exact r3 j hj
  · rw [if_neg c] at q ⊢
    cases q
    exact ⟨τ, rfl, r1, r2, r3⟩
/-- what waits on the stack lies in marked pages -/
def Sk (σ : Sg) : Prop := ∀ j : Nat, (j : Int) < (gi σ 0 16).toInt → inH σ (gi σ 10 j) = true → gi σ 9 (pgN (gi σ 10 j)) ≠ 0
theorem Sk.same {σ τ : Sg} (S : Sk σ) (h10 : gi τ 0 10 = gi σ 0 10) (h9 : ∀ j, gi τ 9 j = gi σ 9 j) (hs : ∀ j, gi τ 10 j = gi σ 10 j) (h16 : (gi τ 0 16).toInt ≤ (gi σ 0 16).toInt) : Sk τ := by
  intro j hj hi
  rw [hs] at hi ⊢
  rw [h9]
  refine S j (by omega) ?_
  unfold inH at hi ⊢
  rw [← h10]
  exact hi
theorem moS {σ σ' : Sg} (S : Sk σ) (h0 : 0 ≤ (gi σ 0 16).toInt) {p k : Nat} (hp : p < 4) (hk : k < 16) {st : Int32} (hst : inH σ st = true → pgN st = p) (q : c_markObject (Int32.ofNat p) (Int32.ofNat k) st σ = some σ') : Sk σ' := by
  have e0 : (0 : Int32).toInt = 0 := rfl
  have e16 : (16 : Int32).toInt = 16 := rfl
  have e256 : (256 : Int32).toInt = 256 := rfl
  have ep := ti_ofNat (n := p) (by omega)
  have ek := ti_ofNat (n := k) (by omega)
  have hnz : gi σ 9 p ||| ((1 : Int32) <<< (Int32.ofNat k &&& 31)) ≠ 0 := fun z => by
    have h1 := or_bit (gi σ 9 p) (p := k) (t := k) (by omega) (by omega)
    rw [show gi σ 9 p ||| bitI k = 0 from z, tbI_zero, decide_eq_true (show k = k from rfl), Bool.or_true] at h1
    cases h1
  unfold c_markObject at q
  rw [if_neg (by rw [ti_lt]; omega), if_pos (by rw [ti_lt]; omega), if_pos (inbT (by omega) (show (Int32.ofNat p).toInt < ((16 : Nat) : Int) by omega)), nx_ofNat (by omega)] at q
  by_cases c : gi σ 9 p &&& ((1 : Int32) <<< (Int32.ofNat k &&& 31)) = 0
  · rw [if_pos c, if_neg (by rw [ti_lt]; omega)] at q
    by_cases d : gi σ 0 16 < 256
    · have d' := d
      rw [ti_lt] at d'
      rw [if_pos d, if_pos (inbT h0 (show (gi σ 0 16).toInt < ((256 : Nat) : Int) by omega))] at q
      have e1 : (gi σ 0 16 + 1).toInt = (gi σ 0 16).toInt + 1 := ti_add1 (by omega)
      cases q
      intro j hj hi
      rw [gi_si, if_pos ⟨rfl, rfl⟩] at hj
      rw [g10a] at hi ⊢
      rw [g9a]
      by_cases e : j = nx (gi σ 0 16)
      · rw [if_pos e] at hi ⊢
        rw [if_pos (hst hi)]
        exact hnz
      · rw [if_neg e] at hi ⊢
        by_cases f : pgN (gi σ 10 j) = p
        · rw [if_pos f]; exact hnz
        · rw [if_neg f]
          refine S j ?_ hi
          unfold nx at e
          omega
    · rw [if_neg d] at q
      cases q
      intro j hj hi
      rw [gi_si, if_neg (by simp), gi_si, if_neg (by simp)] at hj
      rw [g10b] at hi ⊢
      rw [g9b]
      by_cases f : pgN (gi σ 10 j) = p
      · rw [if_pos f]; exact hnz
      · rw [if_neg f]
        exact S j hj hi
  · rw [if_neg c] at q
    cases q
    exact S
theorem scan9 {σ0 m s σ τ : Sg} (b : Bs σ0 m s) (A : Mk σ0 σ) (B : Mk s τ) (R : Rm σ τ) (S : Sk σ) (w : Int32) {σ' : Sg} (q : c_scanWord w σ = some σ') (hm : Mono σ' m) : ∃ τ', c_scanWord w τ = some τ' ∧ Rm σ' τ' ∧ Sk σ' := by
  have e0 : (0 : Int32).toInt = 0 := rfl
  unfold c_scanWord at q ⊢
  rw [p_pageOf w (A.okh b.1), Option.bind_some] at q
  rw [p_pageOf w (B.okh b.2.1), Option.bind_some, inH_eq b.1 b.2.1 A B]
  simp only [] at q ⊢
  by_cases h : inH σ w = true
  · obtain ⟨p4, w16, hw⟩ := pg4 b.1 A h
    have hp : (Int32.ofNat (pgN w)).toInt = (pgN w : Int) := ti_ofNat (by omega)
    have np : ¬ Int32.ofNat (pgN w) < 0 := by rw [ti_lt]; omega
    rw [if_pos h, if_neg np] at q ⊢
    rw [R.1 18 (by omega)]
    generalize gi σ 0 18 ||| (1 : Int32) <<< (Int32.ofNat (pgN w) &&& 31) = V at q ⊢
    obtain ⟨s1, hs1⟩ : ∃ s1, s1 = si σ 0 18 V := ⟨_, rfl⟩
    obtain ⟨t1, ht1⟩ : ∃ t1, t1 = si τ 0 18 V := ⟨_, rfl⟩
    rw [← hs1] at q
    rw [← ht1]
    have y : ∀ k j, ¬ (k = 0 ∧ j = 18) → gi s1 k j = gi σ k j := fun k j a => by rw [hs1, gi_si, if_neg a]
    have z : ∀ k j, ¬ (k = 0 ∧ j = 18) → gi t1 k j = gi τ k j := fun k j a => by rw [ht1, gi_si, if_neg a]
    have A1 : Mk σ0 s1 := A.same (fun k j _ b => y k j (fun q => (b q.1).2 q.2)) (by rw [y 0 16 (by decide)]; exact A.2.2.2.2.1) (by rw [y 0 16 (by decide)]; exact A.2.2.2.2.2)
    have B1 : Mk s t1 := B.same (fun k j _ b => z k j (fun q => (b q.1).2 q.2)) (by rw [z 0 16 (by decide)]; exact B.2.2.2.2.1) (by rw [z 0 16 (by decide)]; exact B.2.2.2.2.2)
    have R1 : Rm s1 t1 := by
      refine ⟨fun j hj => ?_, fun p hp => ?_, fun j hj => ?_⟩
      · rcases hj with rfl | rfl | rfl
        · rw [y 0 16 (by decide), z 0 16 (by decide)]; exact R.1 16 (by omega)
        · rw [y 0 17 (by decide), z 0 17 (by decide)]; exact R.1 17 (by omega)
        · rw [hs1, ht1, gi_si, if_pos ⟨rfl, rfl⟩, gi_si, if_pos ⟨rfl, rfl⟩]
      · rw [y 9 p (by simp), z 9 p (by simp)]; exact R.2.1 p hp
      · rw [y 0 16 (by decide)] at hj
        rw [y 10 j (by simp), z 10 j (by simp)]; exact R.2.2 j hj
    have S1 : Sk s1 := S.same (y 0 10 (by decide)) (fun j => y 9 j (by simp)) (fun j => y 10 j (by simp)) (by rw [y 0 16 (by decide)]; omega)
    rw [p_find w (A1.okh b.1), Option.bind_some] at q
    rw [p_find w (B1.okh b.2.1), Option.bind_some]
    simp only [] at q ⊢
    by_cases io : inO s1 w = true
    · have io' := io
      simp only [inO, Bool.and_eq_true, decide_eq_true_eq] at io'
      obtain ⟨⟨i1, i2⟩, i3⟩ := io'
      have hsl : slN s1 w < 16 := by
        have : slN s1 w ≤ wiN w := Nat.div_le_self _ _
        omega
      have h1 : slN s1 w * 2 ^ shN s1 (pgN w) ≤ wiN w := by unfold slN; exact Nat.div_mul_le_self _ _
      have est := ti_ofNat (n := stN s1 w) (by unfold stN; omega)
      have hst : ¬ Int32.ofNat (stN s1 w) = 0 := by
        rw [ti_eq, est]
        unfold stN
        omega
      have hlv : tbI (gi σ0 5 (pgN w)) (slN s1 w) = true := by
        simp only [lvB, decide_eq_true_eq] at i3
        rw [A1.1 5 (pgN w) (by decide) (by decide) (by decide)] at i3
        cases c : tbI (gi σ0 5 (pgN w)) (slN s1 w) with
        | true => rfl
        | false => exact absurd ((tb_iff _ (by omega)).mpr c) i3
      obtain ⟨s2, q2, M2, O2, bit2⟩ := mo8 (st := Int32.ofNat (stN s1 w)) A1 p4 hsl hlv
      rw [if_pos io, if_neg hst, p_slotOf (A1.okh b.1) i1 i2, Option.bind_some] at q
      simp only [] at q
      rw [q2, Option.bind_some] at q
      cases q
      have hb := hm (pgN w) (slN s1 w) p4 (by omega) bit2
      obtain ⟨io2, hsl2, hst2⟩ := fndA b A1 B1 io hb
      obtain ⟨t2, r2, R2⟩ := mo9 R1 A1.2.2.2.2.1 p4 hsl _ q2
      have io2' := io2
      simp only [inO, Bool.and_eq_true, decide_eq_true_eq] at io2'
      rw [if_pos io2, hst2, if_neg hst, p_slotOf (B1.okh b.2.1) io2'.1.1 io2'.1.2, hsl2, Option.bind_some]
      simp only []
      rw [r2, Option.bind_some]
      refine ⟨t2, rfl, R2, moS S1 A1.2.2.2.2.1 p4 hsl (fun _ => ?_) q2⟩
      have hX : stN s1 w = 4096 + 16 * pgN w + slN s1 w * 2 ^ shN s1 (pgN w) := rfl
      rw [hX] at est ⊢
      generalize slN s1 w * 2 ^ shN s1 (pgN w) = X at h1 est ⊢
      show ((Int32.ofNat (4096 + 16 * pgN w + X)).toInt - 4096).toNat / 16 = pgN w
      rw [est]
      omega
    · rw [if_neg io, if_pos rfl] at q
      cases q
      have io2 : ¬ inO t1 w = true := fun z => io (fndB b A1 B1 z)
      rw [if_neg io2, if_pos rfl]
      exact ⟨t1, rfl, R1, S1⟩
  · rw [if_neg h, if_pos (show (-1 : Int32) < 0 by decide)] at q ⊢
    cases q
    exact ⟨τ, rfl, R, S⟩
/-- one scanned word, in both runs -/
theorem scanB {σ0 m s σ τ : Sg} (b : Bs σ0 m s) (A : Mk σ0 σ) (B : Mk s τ) (R : Rm σ τ) (S : Sk σ) (w : Int32) {σ' : Sg} (q : c_scanWord w σ = some σ') (hm : Mono σ' m) : ∃ τ', c_scanWord w τ = some τ' ∧ Rm σ' τ' ∧ Sk σ' ∧ Mk s τ' := by
  obtain ⟨t, r, R', S'⟩ := scan9 b A B R S w q hm
  obtain ⟨t2, r2, B2, -⟩ := scan8 b.2.1 B w
  rw [r] at r2
  cases r2
  exact ⟨t, r, R', S', B2⟩
theorem roots9 {σ0 m s : Sg} (b : Bs σ0 m s) (k : Nat) : ∀ (i fuel : Nat) (σ τ σ' : Sg), i + k = 32 → k < fuel → Mk σ0 σ → Mk s τ → Rm σ τ → Sk σ → c_markRoots_2 fuel (Int32.ofNat i) σ = some σ' → Mono σ' m → ∃ τ', c_markRoots_2 fuel (Int32.ofNat i) τ = some τ' ∧ Rm σ' τ' ∧ Sk σ' ∧ Mk s τ' := by
  have e32 : (32 : Int32).toInt = 32 := rfl
  induction k with
  | zero =>
    intro i fuel σ τ σ' h1 h2 A B R S q hm
    obtain ⟨f, rfl⟩ : ∃ f, fuel = f + 1 := ⟨fuel - 1, by omega⟩
    have ei := ti_ofNat (n := i) (by omega)
    have n32 : ¬ Int32.ofNat i < 32 := by rw [ti_lt]; omega
    have g12 : gi τ 0 12 = gi σ 0 12 := by rw [A.2.1 12 (by decide) (by decide) (by decide), B.2.1 12 (by decide) (by decide) (by decide)]; exact b.2.2.2.2.2.1
    rw [c_markRoots_2] at q ⊢
    rw [g12]
    by_cases a : Int32.ofNat i < gi σ 0 12
    · rw [if_pos a, if_neg n32] at q ⊢
      cases q
      exact ⟨τ, rfl, R, S, B⟩
    · rw [if_neg a] at q ⊢
      cases q
      exact ⟨τ, rfl, R, S, B⟩
  | succ k ih =>
    intro i fuel σ τ σ' h1 h2 A B R S q hm
    obtain ⟨f, rfl⟩ : ∃ f, fuel = f + 1 := ⟨fuel - 1, by omega⟩
    have ei := ti_ofNat (n := i) (by omega)
    have g12 : gi τ 0 12 = gi σ 0 12 := by rw [A.2.1 12 (by decide) (by decide) (by decide), B.2.1 12 (by decide) (by decide) (by decide)]; exact b.2.2.2.2.2.1
    have g1 : ∀ j, gi τ 1 j = gi σ 1 j := fun j => by rw [A.1 1 j (by decide) (by decide) (by decide), B.1 1 j (by decide) (by decide) (by decide)]; exact b.2.2.2.1 j
    rw [c_markRoots_2] at q ⊢
    rw [g12, g1]
    by_cases a : Int32.ofNat i < gi σ 0 12
    · rw [if_pos a, if_pos (by rw [ti_lt]; omega), if_pos (inbT (by omega) (show (Int32.ofNat i).toInt < ((32 : Nat) : Int) by omega))] at q ⊢
      obtain ⟨s1, q1, A1, O1⟩ := scan8 b.1 A (gi σ 1 (nx (Int32.ofNat i)))
      rw [q1, Option.bind_some, ofNat_succ] at q
      obtain ⟨s2, q2, A2, O2⟩ := roots8 b.1 k (i + 1) f s1 (by omega) (by omega) A1
      have e : s2 = σ' := by rw [q2] at q; cases q; rfl
      rw [e] at O2
      obtain ⟨t1, r1, R1, S1, B1⟩ := scanB b A B R S _ q1 (O2.trans hm)
      rw [r1, Option.bind_some, ofNat_succ]
      exact ih (i + 1) f s1 t1 σ' (by omega) (by omega) A1 B1 R1 S1 q hm
    · rw [if_neg a] at q ⊢
      cases q
      exact ⟨τ, rfl, R, S, B⟩
theorem flds9 {σ0 m s : Sg} (b : Bs σ0 m s) (sz ba : Int32) (k : Nat) : ∀ (i fuel : Nat) (σ τ σ' : Sg), i + k = 16 → k < fuel → Mk σ0 σ → Mk s τ → Rm σ τ → Sk σ → c_scanFields_28 fuel sz ba (Int32.ofNat i) σ = some σ' → Mono σ' m → ∃ τ', c_scanFields_28 fuel sz ba (Int32.ofNat i) τ = some τ' ∧ Rm σ' τ' ∧ Sk σ' ∧ Mk s τ' := by
  have e16 : (16 : Int32).toInt = 16 := rfl
  have e0 : (0 : Int32).toInt = 0 := rfl
  have e256 : (256 : Int32).toInt = 256 := rfl
  induction k with
  | zero =>
    intro i fuel σ τ σ' h1 h2 A B R S q hm
    obtain ⟨f, rfl⟩ : ∃ f, fuel = f + 1 := ⟨fuel - 1, by omega⟩
    have ei := ti_ofNat (n := i) (by omega)
    have n16 : ¬ Int32.ofNat i < 16 := by rw [ti_lt]; omega
    rw [c_scanFields_28] at q ⊢
    by_cases a : Int32.ofNat i < sz
    · rw [if_pos a, if_neg n16] at q ⊢
      cases q
      exact ⟨τ, rfl, R, S, B⟩
    · rw [if_neg a] at q ⊢
      cases q
      exact ⟨τ, rfl, R, S, B⟩
  | succ k ih =>
    intro i fuel σ τ σ' h1 h2 A B R S q hm
    obtain ⟨f, rfl⟩ : ∃ f, fuel = f + 1 := ⟨fuel - 1, by omega⟩
    have ei := ti_ofNat (n := i) (by omega)
    have g2 : ∀ j, gi τ 2 j = gi σ 2 j := fun j => by rw [A.1 2 j (by decide) (by decide) (by decide), B.1 2 j (by decide) (by decide) (by decide)]; exact b.2.2.2.2.1 j
    rw [c_scanFields_28] at q ⊢
    unfold c_scanFields_72 at q ⊢
    rw [g2]
    by_cases a : Int32.ofNat i < sz
    · rw [if_pos a, if_pos (by rw [ti_lt]; omega), ofNat_succ] at q ⊢
      by_cases c1 : ba + Int32.ofNat i < 0
      · rw [if_pos c1] at q ⊢; exact ih (i + 1) f σ τ σ' (by omega) (by omega) A B R S q hm
      · rw [if_neg c1] at q ⊢
        by_cases c2 : ba + Int32.ofNat i < 256
        · rw [if_pos c2] at q ⊢
          rw [ti_lt] at c1 c2
          rw [if_pos (inbT (by omega) (show (ba + Int32.ofNat i).toInt < ((256 : Nat) : Int) by omega))] at q ⊢
          obtain ⟨s1, q1, A1, O1⟩ := scan8 b.1 A (gi σ 2 (nx (ba + Int32.ofNat i)))
          rw [q1, Option.bind_some] at q
          obtain ⟨s2, q2, A2, O2⟩ := flds8 b.1 sz ba k (i + 1) f s1 (by omega) (by omega) A1
          have e : s2 = σ' := by rw [q2] at q; cases q; rfl
          rw [e] at O2
          obtain ⟨t1, r1, R1, S1, B1⟩ := scanB b A B R S _ q1 (O2.trans hm)
          rw [r1, Option.bind_some]
          exact ih (i + 1) f s1 t1 σ' (by omega) (by omega) A1 B1 R1 S1 q hm
        · rw [if_neg c2] at q ⊢; exact ih (i + 1) f σ τ σ' (by omega) (by omega) A B R S q hm
    · rw [if_neg a] at q ⊢
      cases q
      exact ⟨τ, rfl, R, S, B⟩
theorem sf8 {σ0 σ : Sg} (H0 : Hp σ0) (M : Mk σ0 σ) (st : Int32) : ∃ s2, c_scanFields st σ = some s2 ∧ Mk σ0 s2 ∧ Mono σ s2 := by
  have e0 : (0 : Int32).toInt = 0 := rfl
  have Ok := M.okh H0
  unfold c_scanFields
  rw [p_pageOf st Ok, Option.bind_some]
  simp only []
  by_cases h : inH σ st = true
  · obtain ⟨b1, b2, b3, b4⟩ := inH_bd Ok h
    have hp : (Int32.ofNat (pgN st)).toInt = (pgN st : Int) := ti_ofNat (by omega)
    rw [if_pos h, if_neg (show ¬ Int32.ofNat (pgN st) < 0 by rw [ti_lt]; omega), if_pos (inbT (by omega) (show (Int32.ofNat (pgN st)).toInt < ((16 : Nat) : Int) by omega))]
    exact flds8 H0 _ _ 16 0 400 _ (by omega) (by omega) M
  · rw [if_neg h, if_pos (show (-1 : Int32) < 0 by decide)]
    exact ⟨_, rfl, M, Mono.refl _⟩
theorem sf9 {σ0 m s σ τ σ' : Sg} (b : Bs σ0 m s) (A : Mk σ0 σ) (B : Mk s τ) (R : Rm σ τ) (S : Sk σ) {st : Int32} (hst : inH σ st = true → gi m 9 (pgN st) ≠ 0) (q : c_scanFields st σ = some σ') (hm : Mono σ' m) : ∃ τ', c_scanFields st τ = some τ' ∧ Rm σ' τ' ∧ Sk σ' ∧ Mk s τ' := by
  have e0 : (0 : Int32).toInt = 0 := rfl
  unfold c_scanFields at q ⊢
  rw [p_pageOf st (A.okh b.1), Option.bind_some] at q
  rw [p_pageOf st (B.okh b.2.1), Option.bind_some, inH_eq b.1 b.2.1 A B]
  simp only [] at q ⊢
  by_cases h : inH σ st = true
  · obtain ⟨p4, w16, hw⟩ := pg4 b.1 A h
    have hp : (Int32.ofNat (pgN st)).toInt = (pgN st : Int) := ti_ofNat (by omega)
    have np : ¬ Int32.ofNat (pgN st) < 0 := by rw [ti_lt]; omega
    obtain ⟨h3, -, -⟩ := hdr b A B p4 (hst h)
    rw [if_pos h, if_neg np, if_pos (inbT (by omega) (show (Int32.ofNat (pgN st)).toInt < ((16 : Nat) : Int) by omega)), nx_ofNat (by omega)] at q ⊢
    rw [h3]
    exact flds9 b _ _ 16 0 400 σ τ σ' (by omega) (by omega) A B R S q hm
  · rw [if_neg h, if_pos (show (-1 : Int32) < 0 by decide)] at q ⊢
    cases q
    exact ⟨τ, rfl, R, S, B⟩
theorem drain9 {σ0 m s : Sg} (b : Bs σ0 m s) (k : Nat) : ∀ (i fuel : Nat) (σ τ σ' : Sg), i + k = 257 → k < fuel → Mk σ0 σ → Mk s τ → Rm σ τ → Sk σ → c_drainMarkStack_2 fuel (Int32.ofNat i) σ = some σ' → Mono σ' m → ∃ τ', c_drainMarkStack_2 fuel (Int32.ofNat i) τ = some τ' ∧ Rm σ' τ' ∧ Mk s τ' := by
  have e0 : (0 : Int32).toInt = 0 := rfl
  have e1 : (1 : Int32).toInt = 1 := rfl
  have e256 : (256 : Int32).toInt = 256 := rfl
  induction k with
  | zero =>
    intro i fuel σ τ σ' h1 h2 A B R S q hm
    obtain ⟨f, rfl⟩ : ∃ f, fuel = f + 1 := ⟨fuel - 1, by omega⟩
    have ei := ti_ofNat (n := i) (by omega)
    rw [c_drainMarkStack_2, if_pos (by rw [ti_lt]; omega)] at q ⊢
    cases q
    exact ⟨τ, rfl, R, B⟩
  | succ k ih =>
    intro i fuel σ τ σ' h1 h2 A B R S q hm
    obtain ⟨f0, q0, A0, O0⟩ := drain8 b.1 (k + 1) i fuel σ h1 h2 A
    have e00 : f0 = σ' := by rw [q0] at q; cases q; rfl
    rw [e00] at O0
    obtain ⟨f, rfl⟩ : ∃ f, fuel = f + 1 := ⟨fuel - 1, by omega⟩
    have ei := ti_ofNat (n := i) (by omega)
    have n256 : ¬ 256 < Int32.ofNat i := by rw [ti_lt]; omega
    rw [c_drainMarkStack_2, if_neg n256] at q ⊢
    rw [R.1 16 (by omega)]
    by_cases a : 0 < gi σ 0 16
    · have a' := a
      rw [ti_lt] at a'
      have m6 := A.2.2.2.2.2
      have es : (gi σ 0 16 - 1).toInt = (gi σ 0 16).toInt - 1 := by rw [ti_sub (by omega) (by omega), e1]
      have en : ((nx (gi σ 0 16 - 1) : Nat) : Int) = (gi σ 0 16).toInt - 1 := by unfold nx; omega
      rw [if_pos a, if_pos (inbT (by omega) (show (gi σ 0 16 - 1).toInt < ((256 : Nat) : Int) by omega))] at q ⊢
      rw [R.2.2 (nx (gi σ 0 16 - 1)) (by omega)]
      have hS := S (nx (gi σ 0 16 - 1)) (by omega)
      generalize gi σ 10 (nx (gi σ 0 16 - 1)) = st at q hS ⊢
      have A1 : Mk σ0 (si σ 0 16 (gi σ 0 16 - 1)) := A.same (fun kk j x y => by rw [gi_si, if_neg (fun w => (y w.1).1 w.2)]) (by rw [gi_si, if_pos ⟨rfl, rfl⟩]; omega) (by rw [gi_si, if_pos ⟨rfl, rfl⟩]; omega)
      have B1 : Mk s (si τ 0 16 (gi σ 0 16 - 1)) := B.same (fun kk j x y => by rw [gi_si, if_neg (fun w => (y w.1).1 w.2)]) (by rw [gi_si, if_pos ⟨rfl, rfl⟩]; omega) (by rw [gi_si, if_pos ⟨rfl, rfl⟩]; omega)
      have R1 : Rm (si σ 0 16 (gi σ 0 16 - 1)) (si τ 0 16 (gi σ 0 16 - 1)) := by
        refine ⟨fun j hj => ?_, fun p hp => ?_, fun j hj => ?_⟩
        · rcases hj with rfl | rfl | rfl
          · rw [gi_si, if_pos ⟨rfl, rfl⟩, gi_si, if_pos ⟨rfl, rfl⟩]
          · rw [gi_si, if_neg (by simp), gi_si, if_neg (by simp)]; exact R.1 17 (by omega)
          · rw [gi_si, if_neg (by simp), gi_si, if_neg (by simp)]; exact R.1 18 (by omega)
        · rw [gi_si, if_neg (by simp), gi_si, if_neg (by simp)]; exact R.2.1 p hp
        · rw [gi_si, if_pos ⟨rfl, rfl⟩] at hj
          rw [gi_si, if_neg (by simp), gi_si, if_neg (by simp)]
          exact R.2.2 j (by omega)
      have S1 : Sk (si σ 0 16 (gi σ 0 16 - 1)) := S.same (by rw [gi_si, if_neg (by simp)]) (fun j => by rw [gi_si, if_neg (by simp)]) (fun j => by rw [gi_si, if_neg (by simp)]) (by rw [gi_si, if_pos ⟨rfl, rfl⟩]; omega)
      have hst : inH (si σ 0 16 (gi σ 0 16 - 1)) st = true → gi m 9 (pgN st) ≠ 0 := by
        intro hi
        obtain ⟨p4, -, -⟩ := pg4 b.1 A1 hi
        have hi' : inH σ st = true := by
          unfold inH at hi ⊢
          rw [gi_si, if_neg (by simp)] at hi
          exact hi
        obtain ⟨t, ht, hb⟩ := tbI_ne0 (hS hi')
        have := hm _ t p4 ht (O0 _ t p4 ht hb)
        intro z
        rw [z, tbI_zero] at this
        cases this
      obtain ⟨s2, q2, A2, O2⟩ := sf8 b.1 A1 st
      rw [q2, Option.bind_some, ofNat_succ] at q
      obtain ⟨s3, q3, A3, O3⟩ := drain8 b.1 k (i + 1) f s2 (by omega) (by omega) A2
      have e : s3 = σ' := by rw [q3] at q; cases q; rfl
      rw [e] at O3
      obtain ⟨t2, r2, R2, S2, B2⟩ := sf9 b A1 B1 R1 S1 hst q2 (O3.trans hm)
      rw [r2, Option.bind_some, ofNat_succ]
      exact ih (i + 1) f s2 t2 σ' (by omega) (by omega) A2 B2 R2 S2 q hm
    · rw [if_neg a] at q ⊢
      cases q
      exact ⟨τ, rfl, R, B⟩
theorem begin0 {σ σ' : Sg} (h : c_beginMark σ = some σ') : gi σ' 0 16 = 0 ∧ gi σ' 0 17 = 0 ∧ gi σ' 0 18 = 0 ∧ ∀ p, p < 4 → gi σ' 9 p = 0 := by
  have e16 : (16 : Int32).toInt = 16 := rfl
  have loop : ∀ (k i fuel : Nat) (τ σ' : Sg), i + k = 16 → k < fuel → c_beginMark_17 fuel (Int32.ofNat i) τ = some σ' → (∀ kk j, kk ≠ 9 → gi σ' kk j = gi τ kk j) ∧ (∀ j, i ≤ j → j < 16 → gi σ' 9 j = 0) ∧ ∀ j, j < i → gi σ' 9 j = gi τ 9 j := by
    intro k
    induction k with
    | zero =>
      intro i fuel τ σ' h1 h2 h
      obtain ⟨f, rfl⟩ : ∃ f, fuel = f + 1 := ⟨fuel - 1, by omega⟩
      have ei := ti_ofNat (n := i) (by omega)
      rw [c_beginMark_17, if_neg (by rw [ti_lt]; omega)] at h
      cases h
      exact ⟨fun _ _ _ => rfl, fun j a b => by omega, fun _ _ => rfl⟩
    | succ k ih =>
      intro i fuel τ σ' h1 h2 h
      obtain ⟨f, rfl⟩ : ∃ f, fuel = f + 1 := ⟨fuel - 1, by omega⟩
      have ei := ti_ofNat (n := i) (by omega)
      rw [c_beginMark_17, if_pos (by rw [ti_lt]; omega), if_pos (inbT (by omega) (show (Int32.ofNat i).toInt < ((16 : Nat) : Int) by omega)), nx_ofNat (by omega), ofNat_succ] at h
      obtain ⟨a, b, c⟩ := ih (i + 1) f (si τ 9 i 0) σ' (by omega) (by omega) h
      refine ⟨fun kk j ne => by rw [a kk j ne, gi_si, if_neg (fun w => ne w.1)], fun j h3 h4 => ?_, fun j h3 => ?_⟩
      · by_cases e : j = i
        · subst e; rw [c j (by omega), gi_si, if_pos ⟨rfl, rfl⟩]
        · exact b j (by omega) h4
      · rw [c j (by omega), gi_si, if_neg (fun w => by omega)]
  obtain ⟨a, b, -⟩ := loop 16 0 400 (si (si (si σ 0 16 0) 0 17 0) 0 18 0) σ' (by omega) (by omega) h
  refine ⟨?_, ?_, ?_, fun p hp => b p (by omega) (by omega)⟩
  · rw [a 0 16 (by decide)]; simp [gi_si]
  · rw [a 0 17 (by decide)]; simp [gi_si]
  · rw [a 0 18 (by decide)]; simp [gi_si]
/-- a collection, with its marks -/
theorem collM {σ : Sg} (H : Hp σ) : ∃ m1 m2 m s, c_beginMark σ = some m1 ∧ c_markRoots m1 = some m2 ∧ c_drainMarkStack m2 = some m ∧ c_sweepAll m = some s ∧ c_collect σ = some (Int32.ofNat (tot σ 5 - tot m 9), s) ∧ Mk σ m1 ∧ Mk σ m2 ∧ Mk σ m ∧ Mono m2 m ∧ Hp s ∧ tot m 9 ≤ tot σ 5 ∧ tot s 5 = tot m 9 ∧ (∀ j, gi s 1 j = gi σ 1 j) ∧ (∀ j, j = 11 ∨ j = 12 → gi s 0 j = gi σ 0 j) ∧ (∀ p, p < 4 → gi s 5 p = gi m 9 p) ∧ Wx σ m 4 s := by
  obtain ⟨m1, q1, M1⟩ := begin8 σ
  obtain ⟨m2, q2, M2, O2⟩ := roots8 H 32 0 400 m1 (by omega) (by omega) M1
  obtain ⟨m, q3, M3, O3⟩ := drain8 H 257 0 400 m2 (by omega) (by omega) M2
  have y : ∀ k j, ¬ (k = 0 ∧ j = 14) → gi (si m 0 14 0) k j = gi m k j := fun k j a => by rw [gi_si, if_neg a]
  obtain ⟨a, b, c, d, e, f⟩ := id M3
  have W0 : Wv σ m 0 (si m 0 14 0) := by
    refine ⟨by rw [y 0 10 (by decide), b 10 (by decide) (by decide) (by decide)]; exact H.1, fun j => by rw [y 1 j (by simp)]; exact a 1 j (by decide) (by decide) (by decide), fun j hj => by rw [y 0 j (by omega)]; exact b j (by omega) (by omega) (by omega), y 0 17 (by decide), fun j => y 9 j (by simp), fun p hp => by omega, fun p k h1 h2 h3 => by rw [y k p (by omega)]; exact a k p (by omega) (by omega) (by omega), fun p hp => by rw [y 3 p (by simp), a 3 p (by decide) (by decide) (by decide)]; exact H.2.2.1 p hp, fun cc t hc ht h => ?_, fun t ht h => ?_⟩
    · rw [y 8 cc (by simp), a 8 cc (by decide) (by decide) (by decide)] at h
      rw [y 3 t (by simp), y 4 t (by simp), a 3 t (by decide) (by decide) (by decide), a 4 t (by decide) (by decide) (by decide)]
      exact H.2.2.2.1.1 cc t hc ht h
    · rw [y 0 13 (by decide), b 13 (by decide) (by decide) (by decide)] at h
      rw [y 3 t (by simp), a 3 t (by decide) (by decide) (by decide)]
      exact H.2.2.2.1.2 t ht h
  obtain ⟨s, q4, W⟩ := sweep8 H M3 4 0 400 _ (by omega) (by omega) W0
  have X := sweep9 (σ0 := σ) (m := m) 4 0 400 (si m 0 14 0) _ (by omega) (by omega) ⟨fun j => by rw [y 2 j (by simp)]; exact a 2 j (by decide) (by decide) (by decide), y 0 18 (by decide), fun j => y 9 j (by simp), fun p k h1 h2 => by rw [y k p (by omega)]; exact a k p (by omega) (by omega) (by omega), by rw [y 0 10 (by decide), b 10 (by decide) (by decide) (by decide)]; exact H.1, fun p hp => by omega⟩ q4
  have l1 := tot_le σ 5
  have l2 := tot_le m 9
  have hle : tot m 9 ≤ tot σ 5 := by
    have one : ∀ p, p < 4 → bc (gi m 9 p) ≤ bc (gi σ 5 p) := fun p hp => cntF_mono fun t ht h => (c p hp t (by omega) h).2
    have a := one 0 (by decide)
    have b := one 1 (by decide)
    have c := one 2 (by decide)
    have d := one 3 (by decide)
    unfold tot
    omega
  obtain ⟨w10, w1, w0, w17, w9, wp, wq, w3, ⟨wl1, wl2⟩⟩ := W
  have y : ∀ k j, ¬ (k = 0 ∧ j = 15) → gi (si s 0 15 (gi s 0 17)) k j = gi s k j := fun k j a => by rw [gi_si, if_neg a]
  have h5 : ∀ p, p < 4 → gi (si s 0 15 (gi s 0 17)) 5 p = gi m 9 p := fun p hp => by rw [y 5 p (by simp)]; exact (wp p hp).2
  have ht : tot (si s 0 15 (gi s 0 17)) 5 = tot m 9 := by
    unfold tot
    rw [h5 0 (by decide), h5 1 (by decide), h5 2 (by decide), h5 3 (by decide)]
  have b1 : c_markRoots m1 = some m2 := q2
  have b2 : c_drainMarkStack m2 = some m := q3
  have b3 : c_sweepAll m = some (si s 0 15 (gi s 0 17)) := q4
  refine ⟨m1, m2, m, si s 0 15 (gi s 0 17), q1, b1, b2, b3, ?_, M1, M2, M3, O3, ⟨by rw [y 0 10 (by decide)]; exact w10, fun p hp => ((wp p hp).1).same (fun k hk => y k p (by omega)), fun p hp => by rw [y 3 p (by simp)]; exact w3 p hp, ⟨fun cc t hc ht h => ?_, fun t ht h => ?_⟩, ?_⟩, hle, ht, fun j => by rw [y 1 j (by simp)]; exact w1 j, fun j hj => by rw [y 0 j (by omega)]; exact w0 j hj, h5, X⟩
  · unfold c_collect
    rw [q1, Option.bind_some, b1, Option.bind_some, b2, Option.bind_some, b3, Option.bind_some]
    have e1 := ti_ofNat (n := tot σ 5) (by omega)
    have e2 := ti_ofNat (n := tot m 9) (by omega)
    have : gi m 0 15 - gi m 0 17 = Int32.ofNat (tot σ 5 - tot m 9) := by
      rw [b 15 (by decide) (by decide) (by decide), H.2.2.2.2, d]
      refine eq_ofNat ?_
      rw [ti_sub (by omega) (by omega), e1, e2]; omega
    rw [this]
  · rw [y 8 cc (by simp)] at h
    rw [y 3 t (by simp), y 4 t (by simp)]
    exact wl1 cc t hc ht h
  · rw [y 0 13 (by decide)] at h
    rw [y 3 t (by simp)]
    exact wl2 t ht h
  · rw [ht, gi_si, if_pos ⟨rfl, rfl⟩, w17, d]
/-- what can be seen -/
def Vis (s t : Sg) : Prop := (∀ j, gi t 1 j = gi s 1 j) ∧ (∀ j, gi t 2 j = gi s 2 j) ∧ (∀ j, j = 10 ∨ j = 12 ∨ j = 15 → gi t 0 j = gi s 0 j) ∧ ∀ p k, p < 4 → 3 ≤ k → k ≤ 7 → gi t k p = gi s k p
theorem coll2 {σ : Sg} (H : Hp σ) : ∃ f s t, c_collect σ = some (f, s) ∧ Hp s ∧ c_collect s = some (0, t) ∧ Hp t ∧ Vis s t := by
  obtain ⟨m1, m2, m, s, a1, a2, a3, a4, ac, M1, M2, M, O2, Hs, hle, ht, g1, g0, g5, X⟩ := collM H
  obtain ⟨n1, n2, n, t, b1, b2, b3, b4, bc', N1, N2, N, P2, Ht, hle', ht', k1, k0, k5, Y⟩ := collM Hs
  obtain ⟨x2, x18, x9, xq, x10, xp⟩ := X
  obtain ⟨y2, y18, y9, yq, y10, yp⟩ := Y
  have b : Bs σ m s := ⟨H, Hs, M, g1, x2, g0 12 (Or.inr rfl), fun p hp => ⟨g5 p hp, (xp p hp).1, (xp p hp).2.1⟩⟩
  obtain ⟨z16, z17, z18, z9⟩ := begin0 a1
  obtain ⟨w16, w17, w18, w9⟩ := begin0 b1
  have R1 : Rm m1 n1 := by
    refine ⟨fun j hj => ?_, fun p hp => by rw [z9 p hp, w9 p hp], fun j hj => ?_⟩
    · rcases hj with rfl | rfl | rfl
      · rw [z16, w16]
      · rw [z17, w17]
      · rw [z18, w18]
    · rw [z16] at hj
      have e0 : (0 : Int32).toInt = 0 := rfl
      omega
  have S1 : Sk m1 := by
    intro j hj
    rw [z16] at hj
    have e0 : (0 : Int32).toInt = 0 := rfl
    omega
  obtain ⟨n2', r2, R2, S2, N2'⟩ := roots9 b 32 0 400 m1 n1 m2 (by omega) (by omega) M1 N1 R1 S1 a2 O2
  have e2 : n2' = n2 := by
    have : c_markRoots n1 = some n2' := r2
    rw [b2] at this; cases this; rfl
  rw [e2] at R2 N2'
  obtain ⟨n', r3, R3, N3'⟩ := drain9 b 257 0 400 m2 n2 m (by omega) (by omega) M2 N2 R2 S2 a3 (Mono.refl m)
  have e3 : n' = n := by
    have : c_drainMarkStack n2 = some n' := r3
    rw [b3] at this; cases this; rfl
  rw [e3] at R3
  have t9 : tot n 9 = tot m 9 := by
    unfold tot
    rw [R3.2.1 0 (by decide), R3.2.1 1 (by decide), R3.2.1 2 (by decide), R3.2.1 3 (by decide)]
  refine ⟨_, s, t, ac, Hs, ?_, Ht, k1, fun j => by rw [y2], fun j hj => ?_, fun p k hp h3 h7 => ?_⟩
  · rw [bc', ht, t9, Nat.sub_self]; rfl
  · rcases hj with rfl | rfl | rfl
    · rw [Ht.1, Hs.1]
    · exact k0 12 (Or.inr rfl)
    · rw [Ht.2.2.2.2, Hs.2.2.2.2, ht', t9, ht]
  · obtain ⟨p3, p4, p6, p7⟩ := xp p hp
    obtain ⟨v3, v4, v6, v7⟩ := yp p hp
    have r9 := R3.2.1 p hp
    rw [r9] at v3 v4 v6
    have : k = 3 ∨ k = 4 ∨ k = 5 ∨ k = 6 ∨ k = 7 := by omega
    rcases this with rfl | rfl | rfl | rfl | rfl
    · rw [v3]
      by_cases c : gi m 9 p = 0
      · rw [if_pos c, p3, if_pos c]
      · rw [if_neg c]
    · rw [v4]
      by_cases c : gi m 9 p = 0
      · rw [if_pos c, p4, if_pos c]
      · rw [if_neg c]
    · rw [k5 p hp, g5 p hp, r9]
    · rw [v6, p6]
    · rw [v7, p7]
      unfold bk
      rw [r9, R3.1 18 (by omega)]
theorem ite_ex {α : Type} {c : Prop} [Decidable c] {a b : Option (Int32 × α)} (h1 : c → ∃ s, a = some (1, s)) (h2 : ¬ c → ∃ s, b = some (1, s)) : ∃ s, (if c then a else b) = some (1, s) := by
  by_cases h : c
  · rw [if_pos h]; exact h1 h
  · rw [if_neg h]; exact h2 h
theorem and_lt (x : Int32) {m : Int32} (hm : 0 ≤ m.toInt) : ∃ n : Nat, (n : Int) ≤ m.toInt ∧ x &&& m = Int32.ofNat n := by
  have h := c_and x m hm
  have h1 := h.1
  have h2 := h.2
  exact ⟨nx (x &&& m), by unfold nx; omega, (ofNat_nx h1).symm⟩
theorem p_pv (x : Int32) (σ : Sg) : c_pageValid x σ = some (if x < 0 then 0 else if x < gi σ 0 10 then (if x < 16 then 1 else 0) else 0, σ) := by
  unfold c_pageValid
  split
  · rfl
  · split
    · split <;> rfl
    · rfl
theorem pv_ok {σ : Sg} (h10 : gi σ 0 10 = 4) {p : Nat} (hp : p < 4) : c_pageValid (Int32.ofNat p) σ = some (1, σ) := by
  have e0 : (0 : Int32).toInt = 0 := rfl
  have e4 : (4 : Int32).toInt = 4 := rfl
  have e16 : (16 : Int32).toInt = 16 := rfl
  have ep := ti_ofNat (n := p) (by omega)
  rw [p_pv, h10, if_neg (by rw [ti_lt]; omega), if_pos (by rw [ti_lt]; omega), if_pos (by rw [ti_lt]; omega)]
theorem pcls {σ : Sg} (h10 : gi σ 0 10 = 4) {p : Nat} (hp : p < 4) : c_pageClass (Int32.ofNat p) σ = some (gi σ 3 p, σ) := by
  have ep := ti_ofNat (n := p) (by omega)
  unfold c_pageClass
  rw [pv_ok h10 hp, Option.bind_some, if_neg (show ¬ (1 : Int32) = 0 by decide), if_pos (inbT (by omega) (show (Int32.ofNat p).toInt < ((16 : Nat) : Int) by omega)), nx_ofNat (by omega)]
theorem pcnt {σ : Sg} (h10 : gi σ 0 10 = 4) {p : Nat} (hp : p < 4) : c_pageLiveCount (Int32.ofNat p) σ = some (gi σ 6 p, σ) := by
  have ep := ti_ofNat (n := p) (by omega)
  unfold c_pageLiveCount
  rw [pv_ok h10 hp, Option.bind_some, if_neg (show ¬ (1 : Int32) = 0 by decide), if_pos (inbT (by omega) (show (Int32.ofNat p).toInt < ((16 : Nat) : Int) by omega)), nx_ofNat (by omega)]
theorem Hp.same {σ τ : Sg} (H : Hp σ) (h : ∀ k j, k ≠ 1 → k ≠ 2 → (k = 0 → j = 10 ∨ j = 13 ∨ j = 15) → gi τ k j = gi σ k j) : Hp τ := by
  obtain ⟨a, b, c, ⟨d1, d2⟩, e⟩ := H
  have y : ∀ k j, 3 ≤ k → gi τ k j = gi σ k j := fun k j hk => h k j (by omega) (by omega) (fun q => by omega)
  refine ⟨by rw [h 0 10 (by decide) (by decide) (fun _ => by omega)]; exact a, fun p hp => (b p hp).same (fun k hk => y k p (by omega)), fun p hp => by rw [y 3 p (by decide)]; exact c p hp, ⟨fun cc t hc ht q => ?_, fun t ht q => ?_⟩, ?_⟩
  · rw [y 8 cc (by decide)] at q
    rw [y 3 t (by decide), y 4 t (by decide)]
    exact d1 cc t hc ht q
  · rw [h 0 13 (by decide) (by decide) (fun _ => by omega)] at q
    rw [y 3 t (by decide)]
    exact d2 t ht q
  · rw [h 0 15 (by decide) (by decide) (fun _ => by omega), e]
    unfold tot
    rw [y 5 0 (by decide), y 5 1 (by decide), y 5 2 (by decide), y 5 3 (by decide)]
theorem tot_same {σ τ : Sg} (h : ∀ j, gi τ 5 j = gi σ 5 j) : tot τ 5 = tot σ 5 := by unfold tot; rw [h, h, h, h]
theorem groot {σ : Sg} {d : Nat} (hd : d ≤ 8) (h12 : gi σ 0 12 = Int32.ofNat d) {i : Nat} (hi : i < 32) : c_getRoot (Int32.ofNat i) σ = some (if i < d then gi σ 1 i else 0, σ) := by
  have e0 : (0 : Int32).toInt = 0 := rfl
  have e32 : (32 : Int32).toInt = 32 := rfl
  have ei := ti_ofNat (n := i) (by omega)
  have ed := ti_ofNat (n := d) (by omega)
  unfold c_getRoot c_rootIndexValid
  rw [if_neg (by rw [ti_lt]; omega), h12]
  by_cases a : i < d
  · rw [if_pos (show Int32.ofNat i < Int32.ofNat d by rw [ti_lt]; omega), if_pos (by rw [ti_lt]; omega), Option.bind_some, if_neg (show ¬ (1 : Int32) = 0 by decide), if_pos (inbT (by omega) (show (Int32.ofNat i).toInt < ((32 : Nat) : Int) by omega)), nx_ofNat (by omega), if_pos a]
  · rw [if_neg (show ¬ Int32.ofNat i < Int32.ofNat d by rw [ti_lt]; omega), Option.bind_some, if_pos rfl, if_neg a]
theorem sroot {σ : Sg} {d : Nat} (hd : d ≤ 8) (h12 : gi σ 0 12 = Int32.ofNat d) {i : Nat} (hi : i < 32) (w : Int32) : c_setRoot (Int32.ofNat i) w σ = some (if i < d then (1, si σ 1 i w) else (0, σ)) := by
  have e0 : (0 : Int32).toInt = 0 := rfl
  have e32 : (32 : Int32).toInt = 32 := rfl
  have ei := ti_ofNat (n := i) (by omega)
  have ed := ti_ofNat (n := d) (by omega)
  unfold c_setRoot c_rootIndexValid
  rw [if_neg (by rw [ti_lt]; omega), h12]
  by_cases a : i < d
  · rw [if_pos (show Int32.ofNat i < Int32.ofNat d by rw [ti_lt]; omega), if_pos (by rw [ti_lt]; omega), Option.bind_some, if_neg (show ¬ (1 : Int32) = 0 by decide), if_pos (inbT (by omega) (show (Int32.ofNat i).toInt < ((32 : Nat) : Int) by omega)), nx_ofNat (by omega), if_pos a]
  · rw [if_neg (show ¬ Int32.ofNat i < Int32.ofNat d by rw [ti_lt]; omega), Option.bind_some, if_pos rfl, if_neg a]
theorem ld {σ : Sg} (H : Hp σ) (x : Int32) : c_load x σ = some (if inO σ x = true then gi σ 2 (offN x) else 0, σ) := by
  have e0 : (0 : Int32).toInt = 0 := rfl
  have e256 : (256 : Int32).toInt = 256 := rfl
  have e4096 : (4096 : Int32).toInt = 4096 := rfl
  have Ok := H.okh
  unfold c_load
  rw [p_find x Ok, Option.bind_some]
  simp only []
  by_cases io : inO σ x = true
  · have io' := io
    simp only [inO, Bool.and_eq_true, decide_eq_true_eq] at io'
    obtain ⟨b1, b2, b3, b4⟩ := inH_bd Ok io'.1.1
    have h1 : slN σ x * 2 ^ shN σ (pgN x) ≤ wiN x := by unfold slN; exact Nat.div_mul_le_self _ _
    have hst : ¬ Int32.ofNat (stN σ x) = 0 := by
      rw [ti_eq, ti_ofNat (by unfold stN; omega)]
      unfold stN
      omega
    have hs : (x - 4096).toInt = x.toInt - 4096 := by rw [ti_sub (by omega) (by omega), e4096]
    have hn : nx (x - 4096) = offN x := by unfold nx offN; rw [hs]
    rw [if_pos io, if_neg hst, if_neg (by rw [ti_lt]; omega), if_pos (by rw [ti_lt]; omega), if_pos (inbT (by omega) (show (x - 4096).toInt < ((256 : Nat) : Int) by omega)), hn, if_pos io]
  · rw [if_neg io, if_pos rfl, if_neg io]
theorem st8 {σ : Sg} (H : Hp σ) (x w : Int32) : c_store x w σ = some (if inO σ x = true then (1, si σ 2 (offN x) w) else (0, σ)) := by
  have e0 : (0 : Int32).toInt = 0 := rfl
  have e256 : (256 : Int32).toInt = 256 := rfl
  have e4096 : (4096 : Int32).toInt = 4096 := rfl
  have Ok := H.okh
  unfold c_store
  rw [p_find x Ok, Option.bind_some]
  simp only []
  by_cases io : inO σ x = true
  · have io' := io
    simp only [inO, Bool.and_eq_true, decide_eq_true_eq] at io'
    obtain ⟨b1, b2, b3, b4⟩ := inH_bd Ok io'.1.1
    have h1 : slN σ x * 2 ^ shN σ (pgN x) ≤ wiN x := by unfold slN; exact Nat.div_mul_le_self _ _
    have hst : ¬ Int32.ofNat (stN σ x) = 0 := by
      rw [ti_eq, ti_ofNat (by unfold stN; omega)]
      unfold stN
      omega
    have hs : (x - 4096).toInt = x.toInt - 4096 := by rw [ti_sub (by omega) (by omega), e4096]
    have hn : nx (x - 4096) = offN x := by unfold nx offN; rw [hs]
    rw [if_pos io, if_neg hst, if_neg (by rw [ti_lt]; omega), if_pos (by rw [ti_lt]; omega), if_pos (inbT (by omega) (show (x - 4096).toInt < ((256 : Nat) : Int) by omega)), hn, if_pos io]
  · rw [if_neg io, if_pos rfl, if_neg io]
/-! ConservativeBiY L7 -/
theorem inO_vis {s t : Sg} (Hs : Hp s) (Ht : Hp t) (V : Vis s t) (x : Int32) : inO t x = inO s x ∧ (inO s x = true → stN t x = stN s x ∧ gi t 3 (pgN x) = gi s 3 (pgN x) ∧ inH t x = true ∧ inH s x = true ∧ pgN x < 4) := by
  have e4 : (4 : Int32).toInt = 4 := rfl
  have hH : inH t x = inH s x := by unfold inH; rw [Ht.1, Hs.1]
  by_cases h : inH s x = true
  · obtain ⟨b1, b2, b3, b4⟩ := inH_bd Hs.okh h
    rw [Hs.1, e4] at b2
    have p4 : pgN x < 4 := by omega
    have h3 := V.2.2.2 (pgN x) 3 p4 (by decide) (by decide)
    have h4 := V.2.2.2 (pgN x) 4 p4 (by decide) (by decide)
    have h5 := V.2.2.2 (pgN x) 5 p4 (by decide) (by decide)
    have hsh : shN t (pgN x) = shN s (pgN x) := by unfold shN; rw [h4]
    have hsl : slN t x = slN s x := by unfold slN; rw [hsh]
    refine ⟨?_, fun _ => ⟨by unfold stN; rw [hsl, hsh], h3, by rw [hH]; exact h, h, p4⟩⟩
    unfold inO lvB
    rw [hH, h3, h5, hsl]
  · have h' : inH s x = false := by simpa using h
    have : inO s x = false := by unfold inO; rw [h']; rfl
    refine ⟨?_, fun q => by rw [this] at q; cases q⟩
    rw [this]
    unfold inO
    rw [hH, h']; rfl
theorem osz {s : Sg} (H : Hp s) (x : Int32) : c_objectSize x s = some (if inO s x = true then gi s 3 (pgN x) else 0, s) := by
  have e0 : (0 : Int32).toInt = 0 := rfl
  have Ok := H.okh
  unfold c_objectSize
  rw [p_find x Ok, Option.bind_some]
  simp only []
  by_cases io : inO s x = true
  · have io' := io
    simp only [inO, Bool.and_eq_true, decide_eq_true_eq] at io'
    obtain ⟨b1, b2, b3, b4⟩ := inH_bd Ok io'.1.1
    have h1 : slN s x * 2 ^ shN s (pgN x) ≤ wiN x := by unfold slN; exact Nat.div_mul_le_self _ _
    have hst : ¬ Int32.ofNat (stN s x) = 0 := by
      rw [ti_eq, ti_ofNat (by unfold stN; omega)]
      unfold stN
      omega
    have hp : (Int32.ofNat (pgN x)).toInt = (pgN x : Int) := ti_ofNat (by omega)
    rw [if_pos io, if_neg hst, p_pageOf x Ok, Option.bind_some, if_pos io'.1.1, if_neg (show ¬ Int32.ofNat (pgN x) < 0 by rw [ti_lt]; omega), if_pos (inbT (by omega) (show (Int32.ofNat (pgN x)).toInt < ((16 : Nat) : Int) by omega)), nx_ofNat (by omega), if_pos io]
  · rw [if_neg io, if_pos rfl, if_neg io]
theorem ost {s : Sg} (H : Hp s) (x : Int32) : c_objectStart x s = some (if inO s x = true then Int32.ofNat (stN s x) else 0, s) := by
  unfold c_objectStart
  rw [p_find _ H.okh, Option.bind_some]
theorem pblk {σ : Sg} (h10 : gi σ 0 10 = 4) {p : Nat} (hp : p < 4) : c_isBlacklisted (Int32.ofNat p) σ = some (gi σ 7 p &&& 1, σ) := by
  have ep := ti_ofNat (n := p) (by omega)
  unfold c_isBlacklisted
  rw [pv_ok h10 hp, Option.bind_some, if_neg (show ¬ (1 : Int32) = 0 by decide), if_pos (inbT (by omega) (show (Int32.ofNat p).toInt < ((16 : Nat) : Int) by omega)), nx_ofNat (by omega)]
theorem fp90 {s t : Sg} (Hs : Hp s) (Ht : Hp t) (V : Vis s t) (k : Nat) : ∀ (p fuel : Nat) (y : Int64), p + k = 4 → k < fuel → ∃ h, q_fp_90 fuel y (Int32.ofNat p) s = some (h, s) ∧ q_fp_90 fuel y (Int32.ofNat p) t = some (h, t) := by
  have e4 : (4 : Int32).toInt = 4 := rfl
  induction k with
  | zero =>
    intro p fuel y h1 h2
    obtain ⟨f, rfl⟩ : ∃ f, fuel = f + 1 := ⟨fuel - 1, by omega⟩
    have ep := ti_ofNat (n := p) (by omega)
    have st : ∀ ρ : Sg, gi ρ 0 15 = gi s 0 15 → q_fp_90 (f + 1) y (Int32.ofNat p) ρ = some (y * 31 + (gi s 0 15).toInt64, ρ) := fun ρ h => by
      have l : c_liveObjects ρ = some (gi s 0 15, ρ) := by unfold c_liveObjects; rw [h]
      rw [q_fp_90, if_neg (by rw [ti_lt]; omega), l, Option.bind_some]
    exact ⟨_, st s rfl, st t (V.2.2.1 15 (by omega))⟩
  | succ k ih =>
    intro p fuel y h1 h2
    obtain ⟨f, rfl⟩ : ∃ f, fuel = f + 1 := ⟨fuel - 1, by omega⟩
    have ep := ti_ofNat (n := p) (by omega)
    have st : ∀ ρ : Sg, gi ρ 0 10 = 4 → gi ρ 3 p = gi s 3 p → gi ρ 6 p = gi s 6 p → gi ρ 7 p = gi s 7 p → q_fp_90 (f + 1) y (Int32.ofNat p) ρ = q_fp_90 f ((((y * 31) + (gi s 3 p).toInt64) * 31 + (gi s 6 p).toInt64) * 31 + (if gi s 7 p &&& 1 = 0 then (0 : Int32) else 1).toInt64) (Int32.ofNat (p + 1)) ρ := fun ρ a10 a3 a6 a7 => by
      have l1 := pcls a10 (p := p) (by omega)
      have l2 := pcnt a10 (p := p) (by omega)
      have l3 := pblk a10 (p := p) (by omega)
      rw [a3] at l1
      rw [a6] at l2
      rw [a7] at l3
      rw [q_fp_90, if_pos (by rw [ti_lt]; omega), l1, Option.bind_some]
      simp only []
      rw [l2, Option.bind_some]
      simp only []
      rw [l3, Option.bind_some]
      simp only []
      unfold q_fp_139
      rw [ofNat_succ]
      by_cases c : gi s 7 p &&& 1 = 0
      · rw [if_pos c, if_pos c]
      · rw [if_neg c, if_neg c]
    obtain ⟨h, q1, q2⟩ := ih (p + 1) f _ (by omega) (by omega)
    exact ⟨h, (st s Hs.1 rfl rfl rfl).trans q1, (st t Ht.1 (V.2.2.2 p 3 (by omega) (by decide) (by decide)) (V.2.2.2 p 6 (by omega) (by decide) (by decide)) (V.2.2.2 p 7 (by omega) (by decide) (by decide))).trans q2⟩
theorem fp36 {s t : Sg} (Hs : Hp s) (Ht : Hp t) (V : Vis s t) (k : Nat) : ∀ (a fuel : Nat) (y : Int64), a + k = 4168 → k < fuel → ∃ h, q_fp_36 fuel y (Int32.ofNat a) s = some (h, s) ∧ q_fp_36 fuel y (Int32.ofNat a) t = some (h, t) := by
  have e4168 : (4168 : Int32).toInt = 4168 := rfl
  induction k with
  | zero =>
    intro a fuel y h1 h2
    obtain ⟨f, rfl⟩ : ∃ f, fuel = f + 1 := ⟨fuel - 1, by omega⟩
    have ea := ti_ofNat (n := a) (by omega)
    obtain ⟨h, q1, q2⟩ := fp90 Hs Ht V 4 0 400 y (by omega) (by omega)
    refine ⟨h, ?_, ?_⟩
    · rw [q_fp_36, if_neg (by rw [ti_lt]; omega)]; exact q1
    · rw [q_fp_36, if_neg (by rw [ti_lt]; omega)]; exact q2
  | succ k ih =>
    intro a fuel y h1 h2
    obtain ⟨f, rfl⟩ : ∃ f, fuel = f + 1 := ⟨fuel - 1, by omega⟩
    have ea := ti_ofNat (n := a) (by omega)
    have a1 := ld Hs (Int32.ofNat a)
    have a2 := ost Hs (Int32.ofNat a)
    have a3 := osz Hs (Int32.ofNat a)
    have b1 := ld Ht (Int32.ofNat a)
    have b2 := ost Ht (Int32.ofNat a)
    have b3 := osz Ht (Int32.ofNat a)
    obtain ⟨v1, v2⟩ := inO_vis Hs Ht V (Int32.ofNat a)
    rw [v1, V.2.1] at b1
    rw [v1, show (if inO s (Int32.ofNat a) = true then Int32.ofNat (stN t (Int32.ofNat a)) else 0) = (if inO s (Int32.ofNat a) = true then Int32.ofNat (stN s (Int32.ofNat a)) else 0) by
      by_cases c : inO s (Int32.ofNat a) = true
      · rw [if_pos c, if_pos c, (v2 c).1]
      · rw [if_neg c, if_neg c]] at b2
    rw [v1, show (if inO s (Int32.ofNat a) = true then gi t 3 (pgN (Int32.ofNat a)) else 0) = (if inO s (Int32.ofNat a) = true then gi s 3 (pgN (Int32.ofNat a)) else 0) by
      by_cases c : inO s (Int32.ofNat a) = true
      · rw [if_pos c, if_pos c, (v2 c).2.1]
      · rw [if_neg c, if_neg c]] at b3
    generalize (if inO s (Int32.ofNat a) = true then gi s 2 (offN (Int32.ofNat a)) else 0) = u1 at a1 b1
    generalize (if inO s (Int32.ofNat a) = true then Int32.ofNat (stN s (Int32.ofNat a)) else 0) = u2 at a2 b2
    generalize (if inO s (Int32.ofNat a) = true then gi s 3 (pgN (Int32.ofNat a)) else 0) = u3 at a3 b3
    have st : ∀ ρ : Sg, c_load (Int32.ofNat a) ρ = some (u1, ρ) → c_objectStart (Int32.ofNat a) ρ = some (u2, ρ) → c_objectSize (Int32.ofNat a) ρ = some (u3, ρ) → q_fp_36 (f + 1) y (Int32.ofNat a) ρ = q_fp_36 f ((((((y * 31) + u1.toInt64) * 31) + u2.toInt64) * 31) + u3.toInt64) (Int32.ofNat (a + 1)) ρ := fun ρ r1 r2 r3 => by
      rw [q_fp_36, if_pos (by rw [ti_lt]; omega), r1, Option.bind_some]
      simp only []
      rw [r2, Option.bind_some]
      simp only []
      rw [r3, Option.bind_some, ofNat_succ]
    obtain ⟨h, q1, q2⟩ := ih (a + 1) f _ (by omega) (by omega)
    exact ⟨h, (st s a1 a2 a3).trans q1, (st t b1 b2 b3).trans q2⟩
theorem fp8 {s t : Sg} (Hs : Hp s) (Ht : Hp t) (V : Vis s t) {d : Nat} (hd : d ≤ 8) (h12 : gi s 0 12 = Int32.ofNat d) (k : Nat) : ∀ (i fuel : Nat) (y : Int64), i + k = 5 → k < fuel → ∃ h, q_fp_8 fuel y (Int32.ofNat i) s = some (h, s) ∧ q_fp_8 fuel y (Int32.ofNat i) t = some (h, t) := by
  have e5 : (5 : Int32).toInt = 5 := rfl
  induction k with
  | zero =>
    intro i fuel y h1 h2
    obtain ⟨f, rfl⟩ : ∃ f, fuel = f + 1 := ⟨fuel - 1, by omega⟩
    have ei := ti_ofNat (n := i) (by omega)
    obtain ⟨h, q1, q2⟩ := fp36 Hs Ht V 80 4088 400 y (by omega) (by omega)
    refine ⟨h, ?_, ?_⟩
    · rw [q_fp_8, if_neg (by rw [ti_lt]; omega)]; exact q1
    · rw [q_fp_8, if_neg (by rw [ti_lt]; omega)]; exact q2
  | succ k ih =>
    intro i fuel y h1 h2
    obtain ⟨f, rfl⟩ : ∃ f, fuel = f + 1 := ⟨fuel - 1, by omega⟩
    have ei := ti_ofNat (n := i) (by omega)
    have a1 := groot hd h12 (i := i) (by omega)
    have b1 := groot (σ := t) hd (by rw [V.2.2.1 12 (by omega)]; exact h12) (i := i) (by omega)
    rw [V.1] at b1
    generalize (if i < d then gi s 1 i else 0) = u at a1 b1
    have st : ∀ ρ : Sg, c_getRoot (Int32.ofNat i) ρ = some (u, ρ) → q_fp_8 (f + 1) y (Int32.ofNat i) ρ = q_fp_8 f (y * 31 + u.toInt64) (Int32.ofNat (i + 1)) ρ := fun ρ r => by
      rw [q_fp_8, if_pos (by rw [ti_lt]; omega), r, Option.bind_some, ofNat_succ]
    obtain ⟨h, q1, q2⟩ := ih (i + 1) f _ (by omega) (by omega)
    exact ⟨h, (st s a1).trans q1, (st t b1).trans q2⟩
theorem p_fp {s t : Sg} (Hs : Hp s) (Ht : Hp t) (V : Vis s t) {d : Nat} (hd : d ≤ 8) (h12 : gi s 0 12 = Int32.ofNat d) : ∃ h, q_fp s = some (h, s) ∧ q_fp t = some (h, t) := by
  obtain ⟨h, q1, q2⟩ := fp8 Hs Ht V hd h12 5 0 400 (gi s 0 12).toInt64 (by omega) (by omega)
  have r1 : c_rootDepth s = some (gi s 0 12, s) := rfl
  have r2 : c_rootDepth t = some (gi s 0 12, t) := by unfold c_rootDepth; rw [V.2.2.1 12 (by omega)]
  refine ⟨h, ?_, ?_⟩
  · unfold q_fp
    rw [r1, Option.bind_some]
    exact q1
  · unfold q_fp
    rw [r2, Option.bind_some]
    exact q2
theorem Vis.refl (s : Sg) : Vis s s := ⟨fun _ => rfl, fun _ => rfl, fun _ _ => rfl, fun _ _ _ _ _ => rfl⟩
def J9 (σ : Sg) : Prop := Hp σ ∧ gi σ 0 11 = 4 ∧ ∃ d, d ≤ 4 ∧ gi σ 0 12 = Int32.ofNat d
theorem law16 {sn : Nat} {sf : Nat → Int32} (hsn : sn ≤ 260) (fuel : Nat) : ∀ (i : Nat) (σ : Sg), i ≤ sn + 2 → sn + 3 ≤ i + 3 * fuel → J9 σ → ∃ σ', q_law_16 sn sf fuel 4096 (Int32.ofNat i) σ = some (1, σ') := by
  have e0 : (0 : Int32).toInt = 0 := rfl
  have e1 : (1 : Int32).toInt = 1 := rfl
  have e4 : (4 : Int32).toInt = 4 := rfl
  have e6 : (6 : Int32).toInt = 6 := rfl
  have e15 : (15 : Int32).toInt = 15 := rfl
  have e32 : (32 : Int32).toInt = 32 := rfl
  induction fuel with
  | zero => intro i σ h1 h2; omega
  | succ fuel ih =>
    intro i σ h1 h2 J
    obtain ⟨H, j11, d, hd, j12⟩ := id J
    have ed := ti_ofNat (n := d) (by omega)
    have ei := ti_ofNat (n := i) (by omega)
    have esn : (sn.toInt32 : Int32).toInt = (sn : Int) := len_toInt (by omega)
    have hadd : ∀ (c : Int32) (m : Nat), c.toInt = (m : Int) → m ≤ 10 → (Int32.ofNat i + c) = Int32.ofNat (i + m) := fun c m hc hm => by
      refine eq_ofNat ?_
      rw [ti_add (by omega) (by omega), ei, hc]; omega
    have a1 := hadd 1 1 rfl (by decide)
    have a2 := hadd 2 2 rfl (by decide)
    have a3 := hadd 3 3 rfl (by decide)
    rw [q_law_16, a1, a2]
    by_cases hend : Int32.ofNat (i + 2) < sn.toInt32
    · rw [if_pos hend]
      have hle : i + 3 ≤ sn := by
        rw [ti_lt, esn, ti_ofNat (by omega)] at hend; omega
      have hin : ∀ m, m ≤ 2 → inb (Int32.ofNat (i + m)) sn = true := fun m hm => inbT (by rw [ti_ofNat (by omega)]; omega) (by rw [ti_ofNat (by omega)]; omega)
      have hin0 : inb (Int32.ofNat i) sn = true := hin 0 (by decide)
      rw [if_pos hin0, if_neg (show ¬ (6 : Int32) = 0 by decide), if_pos (hin 1 (by decide)), if_pos (hin 2 (by decide))]
      obtain ⟨w, hw⟩ : ∃ w, q_word (sf (nx (Int32.ofNat (i + 2)))) σ = some (w, σ) := by
        unfold q_word
        split
        · exact ⟨_, rfl⟩
        · exact ⟨_, rfl⟩
      obtain ⟨h, hf, -⟩ := p_fp H H (Vis.refl σ) (d := d) (by omega) j12
      rw [hw, Option.bind_some]
      simp only []
      rw [hf, Option.bind_some]
      simp only []
      have zero : ∀ σ1 : Sg, J9 σ1 → ∃ σ', q_law_250 sn sf (q_law_16 sn sf fuel) 4096 (Int32.ofNat i) h 0 σ1 = some (1, σ') := fun σ1 J1 => by
        unfold q_law_250 q_law_267
        rw [if_pos rfl, a3]
        exact ih (i + 3) σ1 (by omega) (by omega) J1
      have one : ∃ σ', q_law_250 sn sf (q_law_16 sn sf fuel) 4096 (Int32.ofNat i) h 1 σ = some (1, σ') := by
        unfold q_law_250 q_law_267
        rw [if_neg (show ¬ (1 : Int32) = 0 by decide), hf, Option.bind_some, if_pos ((cmp0 _ _).mpr rfl), a3]
        exact ih (i + 3) σ (by omega) (by omega) J
      generalize (sf (nx (Int32.ofNat i)) &&& 7) % 6 = op
      generalize sf (nx (Int32.ofNat (i + 1))) = x
      unfold q_law_81 q_law_114 q_law_128 q_law_163 q_law_198 q_law_240
      by_cases o0 : op = 0
      · rw [if_pos o0]
        by_cases d4 : d = 4
        · have q : c_pushRoot w σ = some (-1, σ) := by
            unfold c_pushRoot
            rw [j12, j11, if_neg (by rw [ti_lt]; omega)]
          rw [q, Option.bind_some, if_pos rfl]
          exact one
        · have q : c_pushRoot w σ = some (Int32.ofNat (d + 1), si (si σ 1 d w) 0 12 (Int32.ofNat (d + 1))) := by
            unfold c_pushRoot
            rw [j12, j11, if_pos (by rw [ti_lt]; omega), if_pos (by rw [ti_lt]; omega), if_neg (by rw [ti_lt]; omega), if_pos (inbT (by omega) (show (Int32.ofNat d).toInt < ((32 : Nat) : Int) by omega)), nx_ofNat (by omega), ofNat_succ]
          have ed1 := ti_ofNat (n := d + 1) (by omega)
          have em : (-1 : Int32).toInt = -1 := rfl
          have H1 : Hp (si (si σ 1 d w) 0 12 (Int32.ofNat (d + 1))) := H.same (fun k j n1 n2 hk => by rw [gi_si, if_neg (fun e => by have := hk e.1; omega), gi_si, if_neg (fun e => n1 e.1)])
          rw [q, Option.bind_some, if_neg (show ¬ Int32.ofNat (d + 1) = -1 by rw [ti_eq]; omega)]
          exact zero _ ⟨H1, by rw [gi_si, if_neg (by simp), gi_si, if_neg (by simp)]; exact j11, d + 1, by omega, by rw [gi_si, if_pos ⟨rfl, rfl⟩]⟩
      rw [if_neg o0]
      by_cases o1 : op = 1
      · rw [if_pos o1]
        have kd : c_rootDepth σ = some (Int32.ofNat d, σ) := by unfold c_rootDepth; rw [j12]
        rw [kd, Option.bind_some]
        simp only []
        by_cases d0 : d = 0
        · have q : c_popRoot σ = some (0, σ) := by
            unfold c_popRoot
            rw [j12, if_neg (by rw [ti_lt]; omega)]
          rw [q, Option.bind_some, if_pos (show Int32.ofNat d = 0 by rw [d0]; rfl), if_neg (show ¬ (1 : Int32) = 0 by decide), if_pos rfl]
          exact one
        · have hsub : Int32.ofNat d - 1 = Int32.ofNat (d - 1) := by
            refine eq_ofNat ?_
            rw [ti_sub (by omega) (by omega), ed, e1]; omega
          have ed1 := ti_ofNat (n := d - 1) (by omega)
          have q : c_popRoot σ = some (gi σ 1 (d - 1), si σ 0 12 (Int32.ofNat (d - 1))) := by
            unfold c_popRoot
            rw [j12, hsub, if_pos (by rw [ti_lt]; omega), if_pos (by rw [ti_lt]; omega), if_pos (inbT (by omega) (show (Int32.ofNat (d - 1)).toInt < ((32 : Nat) : Int) by omega)), nx_ofNat (by omega)]
          have H1 : Hp (si σ 0 12 (Int32.ofNat (d - 1))) := H.same (fun k j n1 n2 hk => by rw [gi_si, if_neg (fun e => by have := hk e.1; omega)])
          rw [q, Option.bind_some, if_neg (show ¬ Int32.ofNat d = 0 by rw [ti_eq]; omega), if_pos trivial]
          exact zero _ ⟨H1, by rw [gi_si, if_neg (by simp)]; exact j11, d - 1, by omega, by rw [gi_si, if_pos ⟨rfl, rfl⟩]⟩
      rw [if_neg o1]
      by_cases o2 : op = 2
      · rw [if_pos o2, if_neg (show ¬ (6 : Int32) = 0 by decide)]
        obtain ⟨kk, hk5, hk⟩ : ∃ kk : Nat, kk < 6 ∧ (x &&& 15) % 6 = Int32.ofNat kk := by
          have b := c_and x 15 (by decide)
          have r := (c_irem (x &&& 15) 6 6 rfl).1 b.1
          have r0 := Int.emod_nonneg (x &&& 15).toInt (show (6 : Int) ≠ 0 by decide)
          have r1 := Int.emod_lt_of_pos (x &&& 15).toInt (show (0 : Int) < 6 by decide)
          exact ⟨nx ((x &&& 15) % 6), by unfold nx; omega, (ofNat_nx (by omega)).symm⟩
        rw [hk, sroot (d := d) (by omega) j12 (by omega), Option.bind_some]
        by_cases c : kk < d
        · have H1 : Hp (si σ 1 kk w) := H.same (fun k j n1 n2 hk => by rw [gi_si, if_neg (fun e => n1 e.1)])
          rw [if_pos c, if_neg (show ¬ (1 : Int32) = 0 by decide)]
          exact zero _ ⟨H1, by rw [gi_si, if_neg (by simp)]; exact j11, d, hd, by rw [gi_si, if_neg (by simp)]; exact j12⟩
        · rw [if_neg c, if_pos rfl]
          exact one
      rw [if_neg o2]
      by_cases o3 : op = 3
      · rw [if_pos o3, if_neg (show ¬ (18 : Int32) = 0 by decide)]
        generalize (x &&& 31) % 18 = n
        obtain ⟨s, hs, hci⟩ := ci_n (n := n)
        rcases alloc8 H hs hci with q | ⟨p, k, σ', q, H', N, n1⟩
        · rw [q, Option.bind_some, if_pos rfl]
          exact one
        · obtain ⟨m1, m2, m3, m4, m5, m6, m7, m8, m9, m10⟩ := id N
          obtain ⟨w1, w2, w3, w4, w5, w6⟩ := pwN hs
          have hkm : k * 2 ^ s ≤ 16 := by
            have : k * 2 ^ s ≤ 16 / 2 ^ s * 2 ^ s := Nat.mul_le_mul_right _ (by omega)
            omega
          have nA : ¬ Int32.ofNat (4096 + 16 * p + k * 2 ^ s) = 0 := by rw [ti_eq, ti_ofNat (by omega)]; omega
          rw [q, Option.bind_some, if_neg nA]
          exact zero _ ⟨H', by rw [m9 11 (by decide) (by decide)]; exact j11, d, hd, by rw [m9 12 (by decide) (by decide)]; exact j12⟩
      rw [if_neg o3]
      by_cases o4 : op = 4
      · rw [if_pos o4, if_neg (show ¬ (80 : Int32) = 0 by decide)]
        generalize (4096 : Int32) - 8 + (x &&& 127) % 80 = a
        rw [st8 H, Option.bind_some]
        by_cases io : inO σ a = true
        · have H1 : Hp (si σ 2 (offN a) w) := H.same (fun k j n1 n2 hk => by rw [gi_si, if_neg (fun e => n2 e.1)])
          rw [if_pos io, if_neg (show ¬ (1 : Int32) = 0 by decide)]
          exact zero _ ⟨H1, by rw [gi_si, if_neg (by simp)]; exact j11, d, hd, by rw [gi_si, if_neg (by simp)]; exact j12⟩
        · rw [if_neg io, if_pos rfl]
          exact one
      rw [if_neg o4]
      obtain ⟨f, s, q, hf', ht, Hs, g1, g0⟩ := coll8 H
      rw [q, Option.bind_some]
      exact zero s ⟨Hs, by rw [g0 11 (Or.inl rfl)]; exact j11, d, hd, by rw [g0 12 (Or.inr rfl)]; exact j12⟩
    · rw [if_neg hend]
      obtain ⟨f, s, t, q1, Hs, q2, Ht, V⟩ := coll2 H
      obtain ⟨f', s', q1', hf', ht, Hs', g1, g0⟩ := coll8 H
      have es : s' = s := by rw [q1] at q1'; cases q1'; rfl
      rw [es] at g0
      have s12 : gi s 0 12 = Int32.ofNat d := by rw [g0 12 (Or.inr rfl)]; exact j12
      obtain ⟨h, k1, k2⟩ := p_fp Hs Ht V (d := d) (by omega) s12
      have l1 : c_liveObjects s = some (gi s 0 15, s) := rfl
      have l2 : c_liveObjects t = some (gi s 0 15, t) := by unfold c_liveObjects; rw [V.2.2.1 15 (by omega)]
      rw [q1, Option.bind_some]
      simp only []
      rw [k1, Option.bind_some]
      simp only []
      rw [l1, Option.bind_some]
      simp only []
      rw [q2, Option.bind_some, if_pos rfl]
      simp only []
      rw [l2, Option.bind_some, if_pos rfl]
      simp only []
      rw [k2, Option.bind_some, if_pos ((cmp0 _ _).mpr rfl)]
      exact ⟨t, rfl⟩
theorem law_true (sn : Nat) (hsn : sn ≤ 260) (sf : Nat → Int32) : ∃ σ, q_law sn sf = some (1, σ) := by
  obtain ⟨σ, q, f10, f11, f12, f13, f14, f15, fz⟩ := p_init 4 4
  have k10 : gi σ 0 10 = 4 := by rw [f10]; decide
  have k11 : gi σ 0 11 = 4 := by rw [f11]; decide
  have z5 : tot σ 5 = 0 := by unfold tot; rw [fz 5 0 (by decide), fz 5 1 (by decide), fz 5 2 (by decide), fz 5 3 (by decide), bc_0]
  have H : Hp σ := ⟨k10, fun p _ => Or.inl ⟨fz 3 p (by decide), fz 5 p (by decide), fz 6 p (by decide)⟩, fun p _ => fz 3 p (by decide), ⟨fun c t _ _ h => (by rw [fz 8 c (by decide), tbI_zero] at h; cases h), fun t _ _ => fz 3 t (by decide)⟩, by rw [f15, z5]; rfl⟩
  unfold q_law
  rw [q, Option.bind_some]
  exact law16 (sf := sf) hsn 400 0 σ (by omega) (by omega) ⟨H, k11, 0, by decide, f12⟩
set_option maxRecDepth 65536 in
set_option maxHeartbeats 40000000 in
theorem comes_1 {Post : Tables → Env → Array Value → State → Outcome → State → Prop} (hpost : ∀ tb e args s v u, (limb_1_1.after args s (.returned v) u = true ∧ limb_1_2.after args s (.returned v) u = true ∧ True) → FrameEnd s (.returned v) u (Jvm.fieldLocs frame_1_writes args s ++ Jvm.arrayLocs frame_1_arrays args s ++ Jvm.staticLocs frame_1_statics s) 32 1408 → Post tb e args s (.returned v) u) :
    ArmFor flags0 classFile x code maxLocals ret World_1 tables_1 room_1 Calls_1 rest_1 Pre_1 Post := by
  intro l hfl _ _ p e ha hc hk s m args below hf hA hF happ hP
  obtain ⟨hcalls, hrest, hpre⟩ := hP
  obtain ⟨-, -, -, hnamed, -, -, -, hat⟩ := (Spec.applies_iff hf).mp happ
  obtain ⟨hg, hn⟩ := and_e (Cond.before_iff.mp (show (Jvm.Cond.and given_1 narrow_1).before args s = true from hpre))
  obtain ⟨g0, g1⟩ := and_e hg
  obtain ⟨w0, rfl⟩ : ∃ w0 : Value, args = #[w0] := by
    have hs : args.size = 1 := by simpa [Cond.value, given_1] using g0
    obtain ⟨L⟩ := args
    match L, hs with
    | [w0], _ => exact ⟨w0, rfl⟩
  have hw : WH _ s := fun d (hd : d ∈ tables_1) => atoms_spec (ws := Jvm.Cond.code x code maxLocals ret :: tables_1) hat d (List.mem_cons_of_mem _ hd)
  have hfit : Fit s := fun {y c} hc i hi => by
    obtain ⟨ha, rfl⟩ := Array.getElem?_eq_some_iff.mp hc
    have q := List.all_eq_true.mp ((Array.all_eq_true_iff_forall_mem.mp hF) _ (Array.getElem_mem ha)) i (List.mem_range.mpr hi)
    simpa [Array.getElem?_eq_getElem hi] using q
  obtain ⟨n1, n2⟩ := and_e hn
  obtain ⟨ar, e0⟩ := arr_v n1
  obtain rfl : w0 = (.ref ar) := Option.some.inj e0
  obtain ⟨cl, Ar⟩ := Arr.start e0 n1
  have hlen : cl.slots.size ≤ 260 := by
    obtain ⟨z, z', y1, y2, y3, y4⟩ := cmp_v (Or.inr (Or.inr n2))
    have y5 : z' = .int 260 := (Option.some.inj y2).symm
    subst y5
    obtain ⟨z, rfl⟩ := y4
    have y6 := gotT (show (Cond.le (Jvm.Term.length (Jvm.Term.arg (0 : Nat))) (Jvm.Term.int (260 : Int32))).value _ s none s [] = some (decide (z ≤ (260 : Int32))) by simp [Cond.value, y1, y2]) n2
    obtain ⟨hs', hs2⟩ : cl.slots.size < 2 ^ 31 ∧ z = cl.slots.size.toInt32 := by
      have ha' := Ar.fin (Vm.Alike.refl _)
      simp only [Term.eval, e0, Option.bind_eq_bind, Option.bind_some, ha'] at y1
      have e0' : (#[Value.ref ar])[0]? = some (Value.ref ar) := rfl
      simp only [e0', ha', Option.bind_some] at y1
      split at y1
      · rename_i hlt; exact ⟨hlt, by cases y1; rfl⟩
      · cases y1
    rw [hs2, Int32.le_iff_toInt_le, len_toInt hs'] at y6
    have : (260 : Int32).toInt = 260 := rfl
    omega
  obtain ⟨sf, hsf⟩ : ∃ sf : Nat → Int32, ∀ i, i < cl.slots.size → cl.slots[i]? = some (.int (sf i)) := by
    refine ⟨fun i => match cl.slots[i]? with | some (.int z) => z | _ => 0, fun i hi => ?_⟩
    have hj : ¬ ((i.toInt32 : Int32) < 0 ∨ cl.slots.size ≤ i.toInt32.toNatClampNeg) := idx_in hi (by omega)
    have ei : i.toInt32.toNatClampNeg = i := by show i.toInt32.toInt.toNat = i; rw [len_toInt (by omega)]; rfl
    obtain ⟨v, v1, v2⟩ := elem_fit hfit Ar hj
    rw [ei] at v1
    obtain ⟨z, rfl⟩ := fit_I v2 (Or.inl rfl)
    simp only [v1]
  obtain ⟨w0, hw0⟩ : ∃ w0 : Nat → Option CD, w0 = fun k => if k = 99 then some (.inr (.int, cl.slots.size, some sf)) else none := ⟨_, rfl⟩
  have hsc : w0 99 = some (.inr (.int, cl.slots.size, some sf)) := by rw [hw0]; rfl
  have hw1 : ∀ k d, w0 k = some d → k = 99 ∧ d = .inr (.int, cl.slots.size, some sf) := fun k d q => by
    rw [hw0] at q
    simp only [] at q
    split at q
    · rename_i e; cases q; exact ⟨e, rfl⟩
    · cases q
  have hRd : Rd w0 10 := fun k d q => by obtain ⟨rfl, rfl⟩ := hw1 k d q; exact ⟨rfl, by decide⟩
  obtain ⟨σ', hlaw⟩ := law_true cl.slots.size hlen sf
  have hM := am_met (l := l) (ws := tables_1) (y := x) (bytes := code) (maxL := maxLocals) (ret := ret) (rm := room_1) (as := [.ref 99]) (A := fun _ => ar) (w := w0) (σ := zs) (h := s.heap) (n0 := s.heap.size) (F := FL) (C := "ConservativeBiY") (fs := fsC) (Z := s) (t := q_law cl.slots.size sf) pnL hlaw ⟨fun k d q => (by obtain ⟨rfl, rfl⟩ := hw1 k d q; exact ⟨cl, Ar, rfl, hsf⟩), fun k k' d d' q q' _ => (by rw [(hw1 k d q).1, (hw1 k' d' q').1])⟩ (fun k d q q' => (by obtain ⟨rfl, rfl⟩ := hw1 k d q; cases q')) (fun p e s' m below meth c hc => ok_q_law hw hRd hsc (Nat.le_refl _) hc)
  obtain ⟨n, o, h1, h2, h3, _, L, rfl, ⟨hv, N⟩, hq⟩ := hM p e ha hc hk s m _ below hf ((Spec.applies_iff_loose hf).mp happ).1 ⟨rfl, State.Warmed39.refl s, rfl⟩ trivial
  cases hv
  refine ⟨n, _, h1, h2, h3, hpost _ _ _ _ _ _ ⟨Cond.after_iff.mpr rfl, Cond.after_iff.mpr (eq_i res_at (Term.int_eval (1)) rfl), trivial⟩ ⟨hq.1, hq.2.1, (hq.2.2.sift fun y hy => Or.inr (N y hy)).mono (by decide) (by decide)⟩⟩
theorem main_1_1 : Claimed_1_1 := comes_1 fun _ _ _ _ _ _ h hF => ⟨h.1, hF⟩
theorem main_1_2 : Claimed_1_2 := comes_1 fun _ _ _ _ _ _ h hF => ⟨h.2.1, hF⟩
end Jvm.Pilot.@@N@@
namespace Jvm.Pilot.@@N@@
open Jvm Jvm.ClassFile Sem Op Lib Jvm.Free Jvm.Stand Jvm.Pilot.@@N@@.Jvm.D
/-! MADE BY PROGRAM (witnessworld.py) out of the Statement's table words and the real class files: 11 classes; the members and pool entries that the words name. The judged class is class 1, her method 1. -/
namespace start1
open Jvm.ClassFile
def u (s : String) : CpInfo := .utf8 (stringToUtf16 s)
/-- a pool by its gaps: so many unusable entries, then the entry; so many at the end -/
def gap : Nat → List CpInfo → List CpInfo
  | 0, r => r
  | n + 1, r => .unusable :: gap n r
def poolList (es : List (Nat × CpInfo)) (last : Nat) : List CpInfo := es.foldr (fun e r => gap e.1 (e.2 :: r)) (gap last [])
def pool (es : List (Nat × CpInfo)) (last : Nat) : Array CpInfo := ⟨poolList es last⟩
def fileOf (pool : Array CpInfo) (this : Nat) (attrs : Array Attribute := #[]) (ms : Array MethodInfo := #[]) (fl : Nat := 33) (sup : Nat := 0) (ifs : Array Nat := #[]) (fds : Array FieldInfo := #[]) : ClassFile where
  minorVersion := 0
  majorVersion := 65
  constantPool := pool
  accessFlags := fl
  thisClass := this
  superClass := sup
  interfaces := ifs
  fields := fds
  methods := ms
  attributes := attrs
def plain (name : String) (sup : Option ClassId) : Class where
  name := name
  kind := .ordinary
  loader := none
  accessFlags := 33
  super := sup
  interfaces := #[]
  cf := none
  fields := #[]
  methods := #[]
  instanceTypes := #[]
  staticTypes := #[]
  resolved := #[]
  callSites := []
  init := .initialized
  statics := none
  mirror := none

def pool0 : Array CpInfo := pool [(5, u "<init>"), (0, u "()V"), (1, .class_ 10), (1, u "java/lang/Object")] 113

def k0c0 : Code := { maxStack := 0, maxLocals := 1, code := object_method_1_code, exceptionTable := #[], attributes := #[] }
def k0m0 : Method := { name := "<init>", desc := "()V", sig := { parameters := [], returnType := none }, accessFlags := 1, code := some k0c0 }
/-- java/lang/Object -/
def k0 : Class := { plain "java/lang/Object" none with
  accessFlags := 33
  interfaces := #[]
  cf := some (fileOf pool0 8 #[] #[{ accessFlags := 1, nameIndex := 5, descriptorIndex := 6, attributes := #[] }] 33 0 #[] #[])
  fields := #[]
  methods := #[k0m0]
  instanceTypes := #[]
  staticTypes := #[]
  resolved := Array.replicate 124 none
  statics := none }

def pool1 : Array CpInfo := pool [(2, .class_ 4), (1, u "java/lang/Object"), (0, u "<init>"), (0, u "()V"), (0, .class_ 8), (0, u "ConservativeBiY"), (0, .methodref 7 10), (0, .nameAndType 5 11), (0, u "(II)V"), (0, .methodref 13 14), (0, .class_ 15), (0, .nameAndType 16 17), (0, u "ConservativeBiYL7"), (0, u "word"), (0, u "(I)I"), (0, .methodref 13 19), (0, .nameAndType 20 21), (0, u "fp"), (0, u "(LConservativeBiY;)J"), (0, .methodref 7 23), (0, .nameAndType 24 17), (0, u "pushRoot"), (0, .methodref 7 26), (0, .nameAndType 27 28), (0, u "rootDepth"), (0, u "()I"), (0, .methodref 7 30), (0, .nameAndType 31 28), (0, u "popRoot"), (0, .methodref 7 33), (0, .nameAndType 34 35), (0, u "setRoot"), (0, u "(II)Z"), (0, .methodref 7 37), (0, .nameAndType 38 17), (0, u "alloc"), (0, .methodref 7 40), (0, .nameAndType 41 35), (0, u "store"), (0, .methodref 7 43), (0, .nameAndType 44 28), (0, u "collect"), (0, .methodref 7 46), (0, .nameAndType 47 28), (0, u "liveObjects"), (0, .long 31), (1, .methodref 7 51), (0, .nameAndType 52 17), (0, u "getRoot"), (0, .methodref 7 54), (0, .nameAndType 55 17), (0, u "load"), (0, .methodref 7 57), (0, .nameAndType 58 17), (0, u "objectStart"), (0, .methodref 7 60), (0, .nameAndType 61 17), (0, u "objectSize"), (0, .methodref 7 63), (0, .nameAndType 64 17), (0, u "pageClass"), (0, .methodref 7 66), (0, .nameAndType 67 17), (0, u "pageLiveCount"), (0, .methodref 7 69), (0, .nameAndType 70 71), (0, u "isBlacklisted"), (0, u "(I)Z"), (2, u "law"), (0, u "([I)Z")] 5

def k1m0 : Method := { name := "<init>", desc := "()V", sig := { parameters := [], returnType := none }, accessFlags := 1, code := none }
def k1c1 : Code := { maxStack := 4, maxLocals := 12, code := code, exceptionTable := #[], attributes := #[] }
def k1m1 : Method := { name := "law", desc := "([I)Z", sig := { parameters := [(.array .int)], returnType := some .boolean }, accessFlags := 9, code := some k1c1 }
def k1c2 : Code := { maxStack := 4, maxLocals := 4, code := method_3_code, exceptionTable := #[], attributes := #[] }
def k1m2 : Method := { name := "fp", desc := "(LConservativeBiY;)J", sig := { parameters := [(.object "ConservativeBiY")], returnType := some .long }, accessFlags := 10, code := some k1c2 }
def k1c3 : Code := { maxStack := 3, maxLocals := 1, code := method_4_code, exceptionTable := #[], attributes := #[] }
def k1m3 : Method := { name := "word", desc := "(I)I", sig := { parameters := [.int], returnType := some .int }, accessFlags := 10, code := some k1c3 }
/-- ConservativeBiYL7 -/
def k1 : Class := { plain "ConservativeBiYL7" (some 0) with
  accessFlags := 33
  interfaces := #[]
  cf := some (fileOf pool1 13 #[] #[{ accessFlags := 1, nameIndex := 5, descriptorIndex := 6, attributes := #[] }, { accessFlags := 9, nameIndex := 74, descriptorIndex := 75, attributes := #[] }, { accessFlags := 10, nameIndex := 20, descriptorIndex := 21, attributes := #[] }, { accessFlags := 10, nameIndex := 16, descriptorIndex := 17, attributes := #[] }] 33 2 #[] #[])
  fields := #[]
  methods := #[k1m0, k1m1, k1m2, k1m3]
  instanceTypes := #[]
  staticTypes := #[]
  resolved := Array.replicate 81 none
  statics := none }

def pool2 : Array CpInfo := pool [(1, .methodref 2 3), (0, .class_ 4), (0, .nameAndType 5 6), (0, u "java/lang/Object"), (0, u "<init>"), (0, u "()V"), (0, .fieldref 8 9), (0, .class_ 10), (0, .nameAndType 11 12), (0, u "ConservativeBiY"), (0, u "roots"), (0, u "[I"), (0, .fieldref 8 14), (0, .nameAndType 15 12), (0, u "heap"), (0, .fieldref 8 17), (0, .nameAndType 18 12), (0, u "pageCls"), (0, .fieldref 8 20), (0, .nameAndType 21 12), (0, u "pageShift"), (0, .fieldref 8 23), (0, .nameAndType 24 12), (0, u "liveMask"), (0, .fieldref 8 26), (0, .nameAndType 27 12), (0, u "liveCnt"), (0, .fieldref 8 29), (0, .nameAndType 30 31), (0, u "black"), (0, u "[Z"), (0, .fieldref 8 33), (0, .nameAndType 34 12), (0, u "classPages"), (0, .fieldref 8 36), (0, .nameAndType 37 12), (0, u "markMask"), (0, .fieldref 8 39), (0, .nameAndType 40 12), (0, u "markStack"), (0, .fieldref 8 42), (0, .nameAndType 43 44), (0, u "pageCount"), (0, u "I"), (0, .fieldref 8 46), (0, .nameAndType 47 44), (0, u "rootCap"), (0, .fieldref 8 49), (0, .nameAndType 50 44), (0, u "depth"), (0, .methodref 8 52), (0, .nameAndType 53 54), (0, u "validPageMask"), (0, u "()I"), (0, .fieldref 8 56), (0, .nameAndType 57 44), (0, u "freePages"), (0, .fieldref 8 59), (0, .nameAndType 60 44), (0, u "blackPages"), (0, .fieldref 8 62), (0, .nameAndType 63 44), (0, u "liveTotal"), (0, .methodref 8 65), (0, .nameAndType 66 67), (0, u "rootIndexValid"), (0, u "(I)Z"), (0, .methodref 8 69), (0, .nameAndType 70 71), (0, u "classIndexFor"), (0, u "(I)I"), (0, .methodref 8 73), (0, .nameAndType 74 71), (0, u "allocInClassPage"), (0, .methodref 8 76), (0, .nameAndType 77 71), (0, u "allocInFreshPage"), (0, .methodref 8 79), (0, .nameAndType 80 71), (0, u "lowestBit"), (0, .methodref 8 82), (0, .nameAndType 83 71), (0, u "slotMaskFor"), (0, .methodref 8 85), (0, .nameAndType 86 87), (0, u "placeObject"), (0, u "(II)I"), (0, .methodref 8 89), (0, .nameAndType 90 87), (0, u "slotStart"), (0, .methodref 8 92), (0, .nameAndType 93 94), (0, u "clearWords"), (0, u "(II)V"), (0, .methodref 8 96), (0, .nameAndType 97 98), (0, u "refreshPage"), (0, u "(I)V"), (0, .methodref 8 100), (0, .nameAndType 101 71), (0, u "findStart"), (0, .methodref 8 103), (0, .nameAndType 104 71), (0, u "pageOf"), (0, .methodref 8 106), (0, .nameAndType 107 87), (0, u "slotOf"), (0, .methodref 8 109), (0, .nameAndType 110 111), (0, u "slotLive"), (0, u "(II)Z"), (0, .methodref 8 113), (0, .nameAndType 114 6), (0, u "beginMark"), (0, .methodref 8 116), (0, .nameAndType 117 6), (0, u "markRoots"), (0, .methodref 8 119), (0, .nameAndType 120 6), (0, u "drainMarkStack"), (0, .fieldref 8 122), (0, .nameAndType 123 44), (0, u "markedTotal"), (0, .methodref 8 125), (0, .nameAndType 126 6), (0, u "sweepAll"), (0, .fieldref 8 128), (0, .nameAndType 129 44), (0, u "markSp"), (0, .fieldref 8 131), (0, .nameAndType 132 44), (0, u "pointedPages"), (0, .methodref 8 134), (0, .nameAndType 135 98), (0, u "scanWord"), (0, .methodref 8 137), (0, .nameAndType 138 98), (0, u "scanFields"), (0, .methodref 8 140), (0, .nameAndType 141 142), (0, u "markObject"), (0, u "(III)V"), (0, .methodref 8 144), (0, .nameAndType 145 98), (0, u "sweepPage"), (0, .methodref 8 147), (0, .nameAndType 148 71), (0, u "bitCount"), (0, .methodref 8 150), (0, .nameAndType 151 67), (0, u "pageValid"), (0, u "BASE"), (2, u "PAGE_WORDS"), (1, u "MAX_OBJECT_WORDS"), (0, u "NULL"), (1, u "REFUSED"), (1, u "MAX_PAGES"), (0, u "MAX_ROOTS"), (4, u "pushRoot"), (0, u "popRoot"), (0, u "setRoot"), (0, u "getRoot"), (0, u "rootDepth"), (0, u "alloc"), (0, u "store"), (0, u "load"), (0, u "collect"), (1, u "objectStart"), (0, u "objectSize"), (0, u "pageClass"), (0, u "pageLiveCount"), (0, u "isBlacklisted"), (0, u "liveObjects")] 2

def k2c0 : Code := { maxStack := 2, maxLocals := 5, code := prog_1_method_1_code, exceptionTable := #[], attributes := #[] }
def k2m0 : Method := { name := "<init>", desc := "(II)V", sig := { parameters := [.int, .int], returnType := none }, accessFlags := 1, code := some k2c0 }
def k2c1 : Code := { maxStack := 3, maxLocals := 2, code := prog_1_method_2_code, exceptionTable := #[], attributes := #[] }
def k2m1 : Method := { name := "pushRoot", desc := "(I)I", sig := { parameters := [.int], returnType := some .int }, accessFlags := 1, code := some k2c1 }
def k2c2 : Code := { maxStack := 3, maxLocals := 1, code := prog_1_method_3_code, exceptionTable := #[], attributes := #[] }
def k2m2 : Method := { name := "popRoot", desc := "()I", sig := { parameters := [], returnType := some .int }, accessFlags := 1, code := some k2c2 }
def k2c3 : Code := { maxStack := 3, maxLocals := 3, code := prog_1_method_4_code, exceptionTable := #[], attributes := #[] }
def k2m3 : Method := { name := "setRoot", desc := "(II)Z", sig := { parameters := [.int, .int], returnType := some .boolean }, accessFlags := 1, code := some k2c3 }
def k2c4 : Code := { maxStack := 2, maxLocals := 2, code := prog_1_method_5_code, exceptionTable := #[], attributes := #[] }
def k2m4 : Method := { name := "getRoot", desc := "(I)I", sig := { parameters := [.int], returnType := some .int }, accessFlags := 1, code := some k2c4 }
def k2c5 : Code := { maxStack := 1, maxLocals := 1, code := prog_1_method_6_code, exceptionTable := #[], attributes := #[] }
def k2m5 : Method := { name := "rootDepth", desc := "()I", sig := { parameters := [], returnType := some .int }, accessFlags := 1, code := some k2c5 }
def k2c6 : Code := { maxStack := 2, maxLocals := 2, code := prog_1_method_7_code, exceptionTable := #[], attributes := #[] }
def k2m6 : Method := { name := "rootIndexValid", desc := "(I)Z", sig := { parameters := [.int], returnType := some .boolean }, accessFlags := 2, code := some k2c6 }
def k2c7 : Code := { maxStack := 2, maxLocals := 4, code := prog_1_method_8_code, exceptionTable := #[], attributes := #[] }
def k2m7 : Method := { name := "alloc", desc := "(I)I", sig := { parameters := [.int], returnType := some .int }, accessFlags := 1, code := some k2c7 }
def k2c8 : Code := { maxStack := 3, maxLocals := 6, code := prog_1_method_9_code, exceptionTable := #[], attributes := #[] }
def k2m8 : Method := { name := "allocInClassPage", desc := "(I)I", sig := { parameters := [.int], returnType := some .int }, accessFlags := 2, code := some k2c8 }
def k2c9 : Code := { maxStack := 4, maxLocals := 4, code := prog_1_method_10_code, exceptionTable := #[], attributes := #[] }
def k2m9 : Method := { name := "allocInFreshPage", desc := "(I)I", sig := { parameters := [.int], returnType := some .int }, accessFlags := 2, code := some k2c9 }
def k2c10 : Code := { maxStack := 4, maxLocals := 5, code := prog_1_method_11_code, exceptionTable := #[], attributes := #[] }
def k2m10 : Method := { name := "placeObject", desc := "(II)I", sig := { parameters := [.int, .int], returnType := some .int }, accessFlags := 2, code := some k2c10 }
def k2c11 : Code := { maxStack := 3, maxLocals := 6, code := prog_1_method_12_code, exceptionTable := #[], attributes := #[] }
def k2m11 : Method := { name := "clearWords", desc := "(II)V", sig := { parameters := [.int, .int], returnType := none }, accessFlags := 2, code := some k2c11 }
def k2c12 : Code := { maxStack := 2, maxLocals := 3, code := prog_1_method_13_code, exceptionTable := #[], attributes := #[] }
def k2m12 : Method := { name := "classIndexFor", desc := "(I)I", sig := { parameters := [.int], returnType := some .int }, accessFlags := 2, code := some k2c12 }
def k2c13 : Code := { maxStack := 2, maxLocals := 3, code := prog_1_method_14_code, exceptionTable := #[], attributes := #[] }
def k2m13 : Method := { name := "slotMaskFor", desc := "(I)I", sig := { parameters := [.int], returnType := some .int }, accessFlags := 2, code := some k2c13 }
def k2c14 : Code := { maxStack := 2, maxLocals := 1, code := prog_1_method_15_code, exceptionTable := #[], attributes := #[] }
def k2m14 : Method := { name := "validPageMask", desc := "()I", sig := { parameters := [], returnType := some .int }, accessFlags := 2, code := some k2c14 }
def k2c15 : Code := { maxStack := 5, maxLocals := 5, code := prog_1_method_16_code, exceptionTable := #[], attributes := #[] }
def k2m15 : Method := { name := "refreshPage", desc := "(I)V", sig := { parameters := [.int], returnType := none }, accessFlags := 2, code := some k2c15 }
def k2c16 : Code := { maxStack := 3, maxLocals := 5, code := prog_1_method_17_code, exceptionTable := #[], attributes := #[] }
def k2m16 : Method := { name := "store", desc := "(II)Z", sig := { parameters := [.int, .int], returnType := some .boolean }, accessFlags := 1, code := some k2c16 }
def k2c17 : Code := { maxStack := 2, maxLocals := 4, code := prog_1_method_18_code, exceptionTable := #[], attributes := #[] }
def k2m17 : Method := { name := "load", desc := "(I)I", sig := { parameters := [.int], returnType := some .int }, accessFlags := 1, code := some k2c17 }
def k2c18 : Code := { maxStack := 3, maxLocals := 3, code := prog_1_method_19_code, exceptionTable := #[], attributes := #[] }
def k2m18 : Method := { name := "pageOf", desc := "(I)I", sig := { parameters := [.int], returnType := some .int }, accessFlags := 2, code := some k2c18 }
def k2c19 : Code := { maxStack := 3, maxLocals := 4, code := prog_1_method_20_code, exceptionTable := #[], attributes := #[] }
def k2m19 : Method := { name := "slotOf", desc := "(II)I", sig := { parameters := [.int, .int], returnType := some .int }, accessFlags := 2, code := some k2c19 }
def k2c20 : Code := { maxStack := 4, maxLocals := 3, code := prog_1_method_21_code, exceptionTable := #[], attributes := #[] }
def k2m20 : Method := { name := "slotStart", desc := "(II)I", sig := { parameters := [.int, .int], returnType := some .int }, accessFlags := 2, code := some k2c20 }
def k2c21 : Code := { maxStack := 2, maxLocals := 3, code := prog_1_method_22_code, exceptionTable := #[], attributes := #[] }
def k2m21 : Method := { name := "slotLive", desc := "(II)Z", sig := { parameters := [.int, .int], returnType := some .boolean }, accessFlags := 2, code := some k2c21 }
def k2c22 : Code := { maxStack := 3, maxLocals := 4, code := prog_1_method_23_code, exceptionTable := #[], attributes := #[] }
def k2m22 : Method := { name := "findStart", desc := "(I)I", sig := { parameters := [.int], returnType := some .int }, accessFlags := 2, code := some k2c22 }
def k2c23 : Code := { maxStack := 2, maxLocals := 2, code := prog_1_method_24_code, exceptionTable := #[], attributes := #[] }
def k2m23 : Method := { name := "collect", desc := "()I", sig := { parameters := [], returnType := some .int }, accessFlags := 1, code := some k2c23 }
def k2c24 : Code := { maxStack := 3, maxLocals := 2, code := prog_1_method_25_code, exceptionTable := #[], attributes := #[] }
def k2m24 : Method := { name := "beginMark", desc := "()V", sig := { parameters := [], returnType := none }, accessFlags := 2, code := some k2c24 }
def k2c25 : Code := { maxStack := 3, maxLocals := 2, code := prog_1_method_26_code, exceptionTable := #[], attributes := #[] }
def k2m25 : Method := { name := "markRoots", desc := "()V", sig := { parameters := [], returnType := none }, accessFlags := 2, code := some k2c25 }
def k2c26 : Code := { maxStack := 3, maxLocals := 3, code := prog_1_method_27_code, exceptionTable := #[], attributes := #[] }
def k2m26 : Method := { name := "drainMarkStack", desc := "()V", sig := { parameters := [], returnType := none }, accessFlags := 2, code := some k2c26 }
def k2c27 : Code := { maxStack := 3, maxLocals := 7, code := prog_1_method_28_code, exceptionTable := #[], attributes := #[] }
def k2m27 : Method := { name := "scanFields", desc := "(I)V", sig := { parameters := [.int], returnType := none }, accessFlags := 2, code := some k2c27 }
def k2c28 : Code := { maxStack := 4, maxLocals := 5, code := prog_1_method_29_code, exceptionTable := #[], attributes := #[] }
def k2m28 : Method := { name := "scanWord", desc := "(I)V", sig := { parameters := [.int], returnType := none }, accessFlags := 2, code := some k2c28 }
def k2c29 : Code := { maxStack := 4, maxLocals := 5, code := prog_1_method_30_code, exceptionTable := #[], attributes := #[] }
def k2m29 : Method := { name := "markObject", desc := "(III)V", sig := { parameters := [.int, .int, .int], returnType := none }, accessFlags := 2, code := some k2c29 }
def k2c30 : Code := { maxStack := 4, maxLocals := 2, code := prog_1_method_31_code, exceptionTable := #[], attributes := #[] }
def k2m30 : Method := { name := "sweepAll", desc := "()V", sig := { parameters := [], returnType := none }, accessFlags := 2, code := some k2c30 }
def k2c31 : Code := { maxStack := 4, maxLocals := 4, code := prog_1_method_32_code, exceptionTable := #[], attributes := #[] }
def k2m31 : Method := { name := "sweepPage", desc := "(I)V", sig := { parameters := [.int], returnType := none }, accessFlags := 2, code := some k2c31 }
def k2c32 : Code := { maxStack := 2, maxLocals := 2, code := prog_1_method_33_code, exceptionTable := #[], attributes := #[] }
def k2m32 : Method := { name := "objectStart", desc := "(I)I", sig := { parameters := [.int], returnType := some .int }, accessFlags := 1, code := some k2c32 }
def k2c33 : Code := { maxStack := 2, maxLocals := 4, code := prog_1_method_34_code, exceptionTable := #[], attributes := #[] }
def k2m33 : Method := { name := "objectSize", desc := "(I)I", sig := { parameters := [.int], returnType := some .int }, accessFlags := 1, code := some k2c33 }
def k2c34 : Code := { maxStack := 2, maxLocals := 2, code := prog_1_method_35_code, exceptionTable := #[], attributes := #[] }
def k2m34 : Method := { name := "pageClass", desc := "(I)I", sig := { parameters := [.int], returnType := some .int }, accessFlags := 1, code := some k2c34 }
def k2c35 : Code := { maxStack := 2, maxLocals := 2, code := prog_1_method_36_code, exceptionTable := #[], attributes := #[] }
def k2m35 : Method := { name := "pageLiveCount", desc := "(I)I", sig := { parameters := [.int], returnType := some .int }, accessFlags := 1, code := some k2c35 }
def k2c36 : Code := { maxStack := 2, maxLocals := 2, code := prog_1_method_37_code, exceptionTable := #[], attributes := #[] }
def k2m36 : Method := { name := "isBlacklisted", desc := "(I)Z", sig := { parameters := [.int], returnType := some .boolean }, accessFlags := 1, code := some k2c36 }
def k2c37 : Code := { maxStack := 1, maxLocals := 1, code := prog_1_method_38_code, exceptionTable := #[], attributes := #[] }
def k2m37 : Method := { name := "liveObjects", desc := "()I", sig := { parameters := [], returnType := some .int }, accessFlags := 1, code := some k2c37 }
def k2c38 : Code := { maxStack := 2, maxLocals := 2, code := prog_1_method_39_code, exceptionTable := #[], attributes := #[] }
def k2m38 : Method := { name := "pageValid", desc := "(I)Z", sig := { parameters := [.int], returnType := some .boolean }, accessFlags := 2, code := some k2c38 }
def k2c39 : Code := { maxStack := 2, maxLocals := 3, code := prog_1_method_40_code, exceptionTable := #[], attributes := #[] }
def k2m39 : Method := { name := "lowestBit", desc := "(I)I", sig := { parameters := [.int], returnType := some .int }, accessFlags := 2, code := some k2c39 }
def k2c40 : Code := { maxStack := 2, maxLocals := 4, code := prog_1_method_41_code, exceptionTable := #[], attributes := #[] }
def k2m40 : Method := { name := "bitCount", desc := "(I)I", sig := { parameters := [.int], returnType := some .int }, accessFlags := 2, code := some k2c40 }
/-- ConservativeBiY -/
def k2 : Class := { plain "ConservativeBiY" (some 0) with
  accessFlags := 49
  interfaces := #[]
  cf := some (fileOf pool2 8 #[] #[{ accessFlags := 1, nameIndex := 5, descriptorIndex := 94, attributes := #[] }, { accessFlags := 1, nameIndex := 168, descriptorIndex := 71, attributes := #[] }, { accessFlags := 1, nameIndex := 169, descriptorIndex := 54, attributes := #[] }, { accessFlags := 1, nameIndex := 170, descriptorIndex := 111, attributes := #[] }, { accessFlags := 1, nameIndex := 171, descriptorIndex := 71, attributes := #[] }, { accessFlags := 1, nameIndex := 172, descriptorIndex := 54, attributes := #[] }, { accessFlags := 2, nameIndex := 66, descriptorIndex := 67, attributes := #[] }, { accessFlags := 1, nameIndex := 173, descriptorIndex := 71, attributes := #[] }, { accessFlags := 2, nameIndex := 74, descriptorIndex := 71, attributes := #[] }, { accessFlags := 2, nameIndex := 77, descriptorIndex := 71, attributes := #[] }, { accessFlags := 2, nameIndex := 86, descriptorIndex := 87, attributes := #[] }, { accessFlags := 2, nameIndex := 93, descriptorIndex := 94, attributes := #[] }, { accessFlags := 2, nameIndex := 70, descriptorIndex := 71, attributes := #[] }, { accessFlags := 2, nameIndex := 83, descriptorIndex := 71, attributes := #[] }, { accessFlags := 2, nameIndex := 53, descriptorIndex := 54, attributes := #[] }, { accessFlags := 2, nameIndex := 97, descriptorIndex := 98, attributes := #[] }, { accessFlags := 1, nameIndex := 174, descriptorIndex := 111, attributes := #[] }, { accessFlags := 1, nameIndex := 175, descriptorIndex := 71, attributes := #[] }, { accessFlags := 2, nameIndex := 104, descriptorIndex := 71, attributes := #[] }, { accessFlags := 2, nameIndex := 107, descriptorIndex := 87, attributes := #[] }, { accessFlags := 2, nameIndex := 90, descriptorIndex := 87, attributes := #[] }, { accessFlags := 2, nameIndex := 110, descriptorIndex := 111, attributes := #[] }, { accessFlags := 2, nameIndex := 101, descriptorIndex := 71, attributes := #[] }, { accessFlags := 1, nameIndex := 176, descriptorIndex := 54, attributes := #[] }, { accessFlags := 2, nameIndex := 114, descriptorIndex := 6, attributes := #[] }, { accessFlags := 2, nameIndex := 117, descriptorIndex := 6, attributes := #[] }, { accessFlags := 2, nameIndex := 120, descriptorIndex := 6, attributes := #[] }, { accessFlags := 2, nameIndex := 138, descriptorIndex := 98, attributes := #[] }, { accessFlags := 2, nameIndex := 135, descriptorIndex := 98, attributes := #[] }, { accessFlags := 2, nameIndex := 141, descriptorIndex := 142, attributes := #[] }, { accessFlags := 2, nameIndex := 126, descriptorIndex := 6, attributes := #[] }, { accessFlags := 2, nameIndex := 145, descriptorIndex := 98, attributes := #[] }, { accessFlags := 1, nameIndex := 178, descriptorIndex := 71, attributes := #[] }, { accessFlags := 1, nameIndex := 179, descriptorIndex := 71, attributes := #[] }, { accessFlags := 1, nameIndex := 180, descriptorIndex := 71, attributes := #[] }, { accessFlags := 1, nameIndex := 181, descriptorIndex := 71, attributes := #[] }, { accessFlags := 1, nameIndex := 182, descriptorIndex := 67, attributes := #[] }, { accessFlags := 1, nameIndex := 183, descriptorIndex := 54, attributes := #[] }, { accessFlags := 2, nameIndex := 151, descriptorIndex := 67, attributes := #[] }, { accessFlags := 2, nameIndex := 80, descriptorIndex := 71, attributes := #[] }, { accessFlags := 2, nameIndex := 148, descriptorIndex := 71, attributes := #[] }] 49 2 #[] #[{ accessFlags := 25, nameIndex := 152, descriptorIndex := 44, attributes := #[] }, { accessFlags := 25, nameIndex := 155, descriptorIndex := 44, attributes := #[] }, { accessFlags := 25, nameIndex := 157, descriptorIndex := 44, attributes := #[] }, { accessFlags := 25, nameIndex := 158, descriptorIndex := 44, attributes := #[] }, { accessFlags := 25, nameIndex := 160, descriptorIndex := 44, attributes := #[] }, { accessFlags := 25, nameIndex := 162, descriptorIndex := 44, attributes := #[] }, { accessFlags := 25, nameIndex := 163, descriptorIndex := 44, attributes := #[] }, { accessFlags := 2, nameIndex := 43, descriptorIndex := 44, attributes := #[] }, { accessFlags := 2, nameIndex := 47, descriptorIndex := 44, attributes := #[] }, { accessFlags := 2, nameIndex := 50, descriptorIndex := 44, attributes := #[] }, { accessFlags := 2, nameIndex := 11, descriptorIndex := 12, attributes := #[] }, { accessFlags := 2, nameIndex := 15, descriptorIndex := 12, attributes := #[] }, { accessFlags := 2, nameIndex := 18, descriptorIndex := 12, attributes := #[] }, { accessFlags := 2, nameIndex := 21, descriptorIndex := 12, attributes := #[] }, { accessFlags := 2, nameIndex := 24, descriptorIndex := 12, attributes := #[] }, { accessFlags := 2, nameIndex := 27, descriptorIndex := 12, attributes := #[] }, { accessFlags := 2, nameIndex := 30, descriptorIndex := 31, attributes := #[] }, { accessFlags := 2, nameIndex := 34, descriptorIndex := 12, attributes := #[] }, { accessFlags := 2, nameIndex := 57, descriptorIndex := 44, attributes := #[] }, { accessFlags := 2, nameIndex := 60, descriptorIndex := 44, attributes := #[] }, { accessFlags := 2, nameIndex := 63, descriptorIndex := 44, attributes := #[] }, { accessFlags := 2, nameIndex := 37, descriptorIndex := 12, attributes := #[] }, { accessFlags := 2, nameIndex := 40, descriptorIndex := 12, attributes := #[] }, { accessFlags := 2, nameIndex := 129, descriptorIndex := 44, attributes := #[] }, { accessFlags := 2, nameIndex := 123, descriptorIndex := 44, attributes := #[] }, { accessFlags := 2, nameIndex := 132, descriptorIndex := 44, attributes := #[] }])
  fields := #[{ name := "BASE", type := .int, accessFlags := 25, slot := 0, constantValue := 0 }, { name := "PAGE_WORDS", type := .int, accessFlags := 25, slot := 1, constantValue := 0 }, { name := "MAX_OBJECT_WORDS", type := .int, accessFlags := 25, slot := 2, constantValue := 0 }, { name := "NULL", type := .int, accessFlags := 25, slot := 3, constantValue := 0 }, { name := "REFUSED", type := .int, accessFlags := 25, slot := 4, constantValue := 0 }, { name := "MAX_PAGES", type := .int, accessFlags := 25, slot := 5, constantValue := 0 }, { name := "MAX_ROOTS", type := .int, accessFlags := 25, slot := 6, constantValue := 0 }, { name := "pageCount", type := .int, accessFlags := 2, slot := 0, constantValue := 0 }, { name := "rootCap", type := .int, accessFlags := 2, slot := 1, constantValue := 0 }, { name := "depth", type := .int, accessFlags := 2, slot := 2, constantValue := 0 }, { name := "roots", type := (.array .int), accessFlags := 2, slot := 3, constantValue := 0 }, { name := "heap", type := (.array .int), accessFlags := 2, slot := 4, constantValue := 0 }, { name := "pageCls", type := (.array .int), accessFlags := 2, slot := 5, constantValue := 0 }, { name := "pageShift", type := (.array .int), accessFlags := 2, slot := 6, constantValue := 0 }, { name := "liveMask", type := (.array .int), accessFlags := 2, slot := 7, constantValue := 0 }, { name := "liveCnt", type := (.array .int), accessFlags := 2, slot := 8, constantValue := 0 }, { name := "black", type := (.array .boolean), accessFlags := 2, slot := 9, constantValue := 0 }, { name := "classPages", type := (.array .int), accessFlags := 2, slot := 10, constantValue := 0 }, { name := "freePages", type := .int, accessFlags := 2, slot := 11, constantValue := 0 }, { name := "blackPages", type := .int, accessFlags := 2, slot := 12, constantValue := 0 }, { name := "liveTotal", type := .int, accessFlags := 2, slot := 13, constantValue := 0 }, { name := "markMask", type := (.array .int), accessFlags := 2, slot := 14, constantValue := 0 }, { name := "markStack", type := (.array .int), accessFlags := 2, slot := 15, constantValue := 0 }, { name := "markSp", type := .int, accessFlags := 2, slot := 16, constantValue := 0 }, { name := "markedTotal", type := .int, accessFlags := 2, slot := 17, constantValue := 0 }, { name := "pointedPages", type := .int, accessFlags := 2, slot := 18, constantValue := 0 }]
  methods := #[k2m0, k2m1, k2m2, k2m3, k2m4, k2m5, k2m6, k2m7, k2m8, k2m9, k2m10, k2m11, k2m12, k2m13, k2m14, k2m15, k2m16, k2m17, k2m18, k2m19, k2m20, k2m21, k2m22, k2m23, k2m24, k2m25, k2m26, k2m27, k2m28, k2m29, k2m30, k2m31, k2m32, k2m33, k2m34, k2m35, k2m36, k2m37, k2m38, k2m39, k2m40]
  instanceTypes := #[.int, .int, .int, (.array .int), (.array .int), (.array .int), (.array .int), (.array .int), (.array .int), (.array .boolean), (.array .int), .int, .int, .int, (.array .int), (.array .int), .int, .int, .int]
  staticTypes := #[.int, .int, .int, .int, .int, .int, .int]
  resolved := Array.replicate 186 none
  statics := none }

def pool3 : Array CpInfo := pool [(1, u "java/lang/Cloneable"), (0, .class_ 1), (0, u "java/lang/Object"), (0, .class_ 3)] 3

/-- java/lang/Cloneable -/
def k3 : Class := { plain "java/lang/Cloneable" (some 0) with
  accessFlags := 1537
  interfaces := #[]
  cf := some (fileOf pool3 2 #[] #[] 1537 4 #[] #[])
  fields := #[]
  methods := #[]
  instanceTypes := #[]
  staticTypes := #[]
  resolved := Array.replicate 8 none
  statics := none }

def pool4 : Array CpInfo := pool [(1, u "java/io/Serializable"), (0, .class_ 1), (0, u "java/lang/Object"), (0, .class_ 3)] 3

/-- java/io/Serializable -/
def k4 : Class := { plain "java/io/Serializable" (some 0) with
  accessFlags := 1537
  interfaces := #[]
  cf := some (fileOf pool4 2 #[] #[] 1537 4 #[] #[])
  fields := #[]
  methods := #[]
  instanceTypes := #[]
  staticTypes := #[]
  resolved := Array.replicate 8 none
  statics := none }

/-- the primitive boolean -/
def k5 : Class := { plain "boolean" none with kind := .primitive 'Z', accessFlags := 0x411 }
/-- [Z -/
def k6 : Class := { plain "[Z" (some 0) with kind := .array 5 .boolean, interfaces := #[3, 4], accessFlags := 1041 }

/-- the primitive byte -/
def k7 : Class := { plain "byte" none with kind := .primitive 'B', accessFlags := 0x411 }
/-- [B -/
def k8 : Class := { plain "[B" (some 0) with kind := .array 7 .byte, interfaces := #[3, 4], accessFlags := 1041 }

/-- the primitive int -/
def k9 : Class := { plain "int" none with kind := .primitive 'I', accessFlags := 0x411 }
/-- [I -/
def k10 : Class := { plain "[I" (some 0) with kind := .array 9 .int, interfaces := #[3, 4], accessFlags := 1041 }

def heap : Heap := #[{ cls := 10, slots := #[.int 0, .int 3, .int 5, .int 1], vm := .none }]
def classes : Array Class := #[k0, k1, k2, k3, k4, k5, k6, k7, k8, k9, k10]
def interned : List (Array UInt16 × Addr) := []
def slotsUsed : Nat := 4
def theMethod : MethodId := ⟨1, 1⟩
def args0 : Array Value := #[.ref 0]
def aboutOver (below : List Frame) : State where
  vm := { classes := classes, interned := interned.toArray }
  heap := heap
  slotsUsed := slotsUsed
  threads := #[{ frames := .invoking theMethod args0 :: below }]
def below0 : List Frame := [.native { method := ⟨0, 0⟩, args := #[] }]
def about1 : State := aboutOver below0
def p0 : Program := .bare "" "" ""
def e0 : Env := launch0.env 0 0 0
theorem w_frames : about1.frames = Frame.invoking theMethod args0 :: below0 := rfl
set_option maxRecDepth 65536 in
theorem w_args : argsFit about1.vm theMethod args0 = true := by decide +kernel
set_option maxRecDepth 65536 in
theorem w_heap : heapFits about1 = true := by decide +kernel
set_option maxRecDepth 65536 in
theorem w_runnable : about1.curStatus? = some .runnable := by decide +kernel
set_option maxRecDepth 65536 in
theorem w_alone : about1.alone = true := by decide +kernel
set_option maxRecDepth 65536 in
theorem w_named : about1.methodNamed? x = some theMethod := by decide +kernel
set_option maxRecDepth 65536 in
theorem w_hears : about1.hears theMethod below0 = true := by decide +kernel
set_option maxRecDepth 65536 in
theorem w_ripe : about1.ripe theMethod args0 below0 = true := by decide +kernel
theorem w_running : about1.status = .running := rfl
set_option maxRecDepth 65536 in
theorem w_room : about1.hasRoom e0.platform room_1 = true :=
  launch0.hasRoom_least _ room_1 (by decide +kernel) (by decide +kernel) (by decide +kernel) (by decide +kernel) (by decide +kernel) (by decide +kernel)
theorem allAtoms_all (ts : List Jvm.Cond) (a : Array Jvm.Value) (st : Jvm.State) : (allAtoms ts).before a st = ts.all (fun c => c.before a st) := by
  induction ts with
  | nil => rfl
  | cons c t ih =>
    show (Jvm.Cond.and c (allAtoms t)).before a st = _
    rw [Jvm.Cond.before_and, ih, List.all_cons]
def words1 : List Jvm.Cond := Jvm.Cond.code x code maxLocals ret :: tables_1
/-- a 'code' word, met by the world's own term for the bytes: nothing is compared byte by byte -/
theorem code_word {y : MethodName} {bytes : ByteArray} {mx : Nat} {rt : Option FieldType} {a : Array Value} {s : State} {m : MethodId} {meth : Method} {c : Code} (h1 : s.methodNamed? y = some m) (h2 : s.vm.method? m = some meth) (h3 : meth.code = some c) (h4 : c.code = bytes)
    (h5 : (c.maxLocals == mx && c.exceptionTable.isEmpty && decide (c.maxStack ≤ mostOperands) && decide (meth.sig.returnType = rt) && !meth.locks && decide (parseMethodDescriptor y.desc = some meth.sig)) = true) : (Jvm.Cond.code y bytes mx rt).before a s = true := by
  simp only [Bool.and_eq_true, beq_iff_eq, Bool.not_eq_true', decide_eq_true_eq] at h5
  obtain ⟨⟨⟨⟨⟨g1, g2⟩, g3⟩, g4⟩, g5⟩, g6⟩ := h5
  simp [Cond.before, Cond.holds, Cond.value, h1, h2, h3, h4, g1, g2, g3, g4, g5, g6]
def isCode : Jvm.Cond → Bool
  | .code _ _ _ _ => true
  | _ => false
theorem all_split {L : List Jvm.Cond} {P : Jvm.Cond → Bool} (h1 : L.all (fun c => isCode c || P c) = true) (h2 : ∀ c ∈ L.filter isCode, P c = true) : L.all P = true := by
  refine List.all_eq_true.mpr fun c hc => ?_
  have h := List.all_eq_true.mp h1 c hc
  rcases Bool.eq_false_or_eq_true (isCode c) with hi | hi
  · exact h2 c (List.mem_filter.mpr ⟨hc, hi⟩)
  · simpa [hi] using h
set_option maxRecDepth 65536 in
theorem w_c0 : (Jvm.Cond.code x code maxLocals ret).before args0 about1 = true := code_word (m := ⟨1, 1⟩) (meth := k1m1) (c := k1c1) (by decide +kernel) rfl rfl rfl (by decide +kernel)
set_option maxRecDepth 65536 in
theorem w_c1 : (Jvm.Cond.code ({ cls := "ConservativeBiY", name := "<init>", desc := "(II)V" } : Jvm.MethodName) prog_1_method_1_code (5 : Nat) (Option.none : Option Jvm.ClassFile.FieldType)).before args0 about1 = true := code_word (m := ⟨2, 0⟩) (meth := k2m0) (c := k2c0) (by decide +kernel) rfl rfl rfl (by decide +kernel)
set_option maxRecDepth 65536 in
theorem w_c2 : (Jvm.Cond.code ({ cls := "java/lang/Object", name := "<init>", desc := "()V" } : Jvm.MethodName) object_method_1_code (1 : Nat) (Option.none : Option Jvm.ClassFile.FieldType)).before args0 about1 = true := code_word (m := ⟨0, 0⟩) (meth := k0m0) (c := k0c0) (by decide +kernel) rfl rfl rfl (by decide +kernel)
set_option maxRecDepth 65536 in
theorem w_c3 : (Jvm.Cond.code ({ cls := "ConservativeBiY", name := "validPageMask", desc := "()I" } : Jvm.MethodName) prog_1_method_15_code (1 : Nat) (Option.some Jvm.ClassFile.FieldType.int)).before args0 about1 = true := code_word (m := ⟨2, 14⟩) (meth := k2m14) (c := k2c14) (by decide +kernel) rfl rfl rfl (by decide +kernel)
set_option maxRecDepth 65536 in
theorem w_c4 : (Jvm.Cond.code ({ cls := "ConservativeBiYL7", name := "word", desc := "(I)I" } : Jvm.MethodName) method_4_code (1 : Nat) (Option.some Jvm.ClassFile.FieldType.int)).before args0 about1 = true := code_word (m := ⟨1, 3⟩) (meth := k1m3) (c := k1c3) (by decide +kernel) rfl rfl rfl (by decide +kernel)
set_option maxRecDepth 65536 in
theorem w_c5 : (Jvm.Cond.code ({ cls := "ConservativeBiYL7", name := "fp", desc := "(LConservativeBiY;)J" } : Jvm.MethodName) method_3_code (4 : Nat) (Option.some Jvm.ClassFile.FieldType.long)).before args0 about1 = true := code_word (m := ⟨1, 2⟩) (meth := k1m2) (c := k1c2) (by decide +kernel) rfl rfl rfl (by decide +kernel)
set_option maxRecDepth 65536 in
theorem w_c6 : (Jvm.Cond.code ({ cls := "ConservativeBiY", name := "rootDepth", desc := "()I" } : Jvm.MethodName) prog_1_method_6_code (1 : Nat) (Option.some Jvm.ClassFile.FieldType.int)).before args0 about1 = true := code_word (m := ⟨2, 5⟩) (meth := k2m5) (c := k2c5) (by decide +kernel) rfl rfl rfl (by decide +kernel)
set_option maxRecDepth 65536 in
theorem w_c7 : (Jvm.Cond.code ({ cls := "ConservativeBiY", name := "getRoot", desc := "(I)I" } : Jvm.MethodName) prog_1_method_5_code (2 : Nat) (Option.some Jvm.ClassFile.FieldType.int)).before args0 about1 = true := code_word (m := ⟨2, 4⟩) (meth := k2m4) (c := k2c4) (by decide +kernel) rfl rfl rfl (by decide +kernel)
set_option maxRecDepth 65536 in
theorem w_c8 : (Jvm.Cond.code ({ cls := "ConservativeBiY", name := "rootIndexValid", desc := "(I)Z" } : Jvm.MethodName) prog_1_method_7_code (2 : Nat) (Option.some Jvm.ClassFile.FieldType.boolean)).before args0 about1 = true := code_word (m := ⟨2, 6⟩) (meth := k2m6) (c := k2c6) (by decide +kernel) rfl rfl rfl (by decide +kernel)
set_option maxRecDepth 65536 in
theorem w_c9 : (Jvm.Cond.code ({ cls := "ConservativeBiY", name := "load", desc := "(I)I" } : Jvm.MethodName) prog_1_method_18_code (4 : Nat) (Option.some Jvm.ClassFile.FieldType.int)).before args0 about1 = true := code_word (m := ⟨2, 17⟩) (meth := k2m17) (c := k2c17) (by decide +kernel) rfl rfl rfl (by decide +kernel)
set_option maxRecDepth 65536 in
theorem w_c10 : (Jvm.Cond.code ({ cls := "ConservativeBiY", name := "findStart", desc := "(I)I" } : Jvm.MethodName) prog_1_method_23_code (4 : Nat) (Option.some Jvm.ClassFile.FieldType.int)).before args0 about1 = true := code_word (m := ⟨2, 22⟩) (meth := k2m22) (c := k2c22) (by decide +kernel) rfl rfl rfl (by decide +kernel)
set_option maxRecDepth 65536 in
theorem w_c11 : (Jvm.Cond.code ({ cls := "ConservativeBiY", name := "pageOf", desc := "(I)I" } : Jvm.MethodName) prog_1_method_19_code (3 : Nat) (Option.some Jvm.ClassFile.FieldType.int)).before args0 about1 = true := code_word (m := ⟨2, 18⟩) (meth := k2m18) (c := k2c18) (by decide +kernel) rfl rfl rfl (by decide +kernel)
set_option maxRecDepth 65536 in
theorem w_c12 : (Jvm.Cond.code ({ cls := "ConservativeBiY", name := "objectStart", desc := "(I)I" } : Jvm.MethodName) prog_1_method_33_code (2 : Nat) (Option.some Jvm.ClassFile.FieldType.int)).before args0 about1 = true := code_word (m := ⟨2, 32⟩) (meth := k2m32) (c := k2c32) (by decide +kernel) rfl rfl rfl (by decide +kernel)
set_option maxRecDepth 65536 in
theorem w_c13 : (Jvm.Cond.code ({ cls := "ConservativeBiY", name := "objectSize", desc := "(I)I" } : Jvm.MethodName) prog_1_method_34_code (4 : Nat) (Option.some Jvm.ClassFile.FieldType.int)).before args0 about1 = true := code_word (m := ⟨2, 33⟩) (meth := k2m33) (c := k2c33) (by decide +kernel) rfl rfl rfl (by decide +kernel)
set_option maxRecDepth 65536 in
theorem w_c14 : (Jvm.Cond.code ({ cls := "ConservativeBiY", name := "pageClass", desc := "(I)I" } : Jvm.MethodName) prog_1_method_35_code (2 : Nat) (Option.some Jvm.ClassFile.FieldType.int)).before args0 about1 = true := code_word (m := ⟨2, 34⟩) (meth := k2m34) (c := k2c34) (by decide +kernel) rfl rfl rfl (by decide +kernel)
set_option maxRecDepth 65536 in
theorem w_c15 : (Jvm.Cond.code ({ cls := "ConservativeBiY", name := "pageValid", desc := "(I)Z" } : Jvm.MethodName) prog_1_method_39_code (2 : Nat) (Option.some Jvm.ClassFile.FieldType.boolean)).before args0 about1 = true := code_word (m := ⟨2, 38⟩) (meth := k2m38) (c := k2c38) (by decide +kernel) rfl rfl rfl (by decide +kernel)
set_option maxRecDepth 65536 in
theorem w_c16 : (Jvm.Cond.code ({ cls := "ConservativeBiY", name := "pageLiveCount", desc := "(I)I" } : Jvm.MethodName) prog_1_method_36_code (2 : Nat) (Option.some Jvm.ClassFile.FieldType.int)).before args0 about1 = true := code_word (m := ⟨2, 35⟩) (meth := k2m35) (c := k2c35) (by decide +kernel) rfl rfl rfl (by decide +kernel)
set_option maxRecDepth 65536 in
theorem w_c17 : (Jvm.Cond.code ({ cls := "ConservativeBiY", name := "isBlacklisted", desc := "(I)Z" } : Jvm.MethodName) prog_1_method_37_code (2 : Nat) (Option.some Jvm.ClassFile.FieldType.boolean)).before args0 about1 = true := code_word (m := ⟨2, 36⟩) (meth := k2m36) (c := k2c36) (by decide +kernel) rfl rfl rfl (by decide +kernel)
set_option maxRecDepth 65536 in
theorem w_c18 : (Jvm.Cond.code ({ cls := "ConservativeBiY", name := "liveObjects", desc := "()I" } : Jvm.MethodName) prog_1_method_38_code (1 : Nat) (Option.some Jvm.ClassFile.FieldType.int)).before args0 about1 = true := code_word (m := ⟨2, 37⟩) (meth := k2m37) (c := k2c37) (by decide +kernel) rfl rfl rfl (by decide +kernel)
set_option maxRecDepth 65536 in
theorem w_c19 : (Jvm.Cond.code ({ cls := "ConservativeBiY", name := "alloc", desc := "(I)I" } : Jvm.MethodName) prog_1_method_8_code (4 : Nat) (Option.some Jvm.ClassFile.FieldType.int)).before args0 about1 = true := code_word (m := ⟨2, 7⟩) (meth := k2m7) (c := k2c7) (by decide +kernel) rfl rfl rfl (by decide +kernel)
set_option maxRecDepth 65536 in
theorem w_c20 : (Jvm.Cond.code ({ cls := "ConservativeBiY", name := "classIndexFor", desc := "(I)I" } : Jvm.MethodName) prog_1_method_13_code (3 : Nat) (Option.some Jvm.ClassFile.FieldType.int)).before args0 about1 = true := code_word (m := ⟨2, 12⟩) (meth := k2m12) (c := k2c12) (by decide +kernel) rfl rfl rfl (by decide +kernel)
set_option maxRecDepth 65536 in
theorem w_c21 : (Jvm.Cond.code ({ cls := "ConservativeBiY", name := "allocInClassPage", desc := "(I)I" } : Jvm.MethodName) prog_1_method_9_code (6 : Nat) (Option.some Jvm.ClassFile.FieldType.int)).before args0 about1 = true := code_word (m := ⟨2, 8⟩) (meth := k2m8) (c := k2c8) (by decide +kernel) rfl rfl rfl (by decide +kernel)
set_option maxRecDepth 65536 in
theorem w_c22 : (Jvm.Cond.code ({ cls := "ConservativeBiY", name := "lowestBit", desc := "(I)I" } : Jvm.MethodName) prog_1_method_40_code (3 : Nat) (Option.some Jvm.ClassFile.FieldType.int)).before args0 about1 = true := code_word (m := ⟨2, 39⟩) (meth := k2m39) (c := k2c39) (by decide +kernel) rfl rfl rfl (by decide +kernel)
set_option maxRecDepth 65536 in
theorem w_c23 : (Jvm.Cond.code ({ cls := "ConservativeBiY", name := "allocInFreshPage", desc := "(I)I" } : Jvm.MethodName) prog_1_method_10_code (4 : Nat) (Option.some Jvm.ClassFile.FieldType.int)).before args0 about1 = true := code_word (m := ⟨2, 9⟩) (meth := k2m9) (c := k2c9) (by decide +kernel) rfl rfl rfl (by decide +kernel)
set_option maxRecDepth 65536 in
theorem w_c24 : (Jvm.Cond.code ({ cls := "ConservativeBiY", name := "placeObject", desc := "(II)I" } : Jvm.MethodName) prog_1_method_11_code (5 : Nat) (Option.some Jvm.ClassFile.FieldType.int)).before args0 about1 = true := code_word (m := ⟨2, 10⟩) (meth := k2m10) (c := k2c10) (by decide +kernel) rfl rfl rfl (by decide +kernel)
set_option maxRecDepth 65536 in
theorem w_c25 : (Jvm.Cond.code ({ cls := "ConservativeBiY", name := "slotStart", desc := "(II)I" } : Jvm.MethodName) prog_1_method_21_code (3 : Nat) (Option.some Jvm.ClassFile.FieldType.int)).before args0 about1 = true := code_word (m := ⟨2, 20⟩) (meth := k2m20) (c := k2c20) (by decide +kernel) rfl rfl rfl (by decide +kernel)
set_option maxRecDepth 65536 in
theorem w_c26 : (Jvm.Cond.code ({ cls := "ConservativeBiY", name := "clearWords", desc := "(II)V" } : Jvm.MethodName) prog_1_method_12_code (6 : Nat) (Option.none : Option Jvm.ClassFile.FieldType)).before args0 about1 = true := code_word (m := ⟨2, 11⟩) (meth := k2m11) (c := k2c11) (by decide +kernel) rfl rfl rfl (by decide +kernel)
set_option maxRecDepth 65536 in
theorem w_c27 : (Jvm.Cond.code ({ cls := "ConservativeBiY", name := "refreshPage", desc := "(I)V" } : Jvm.MethodName) prog_1_method_16_code (5 : Nat) (Option.none : Option Jvm.ClassFile.FieldType)).before args0 about1 = true := code_word (m := ⟨2, 15⟩) (meth := k2m15) (c := k2c15) (by decide +kernel) rfl rfl rfl (by decide +kernel)
set_option maxRecDepth 65536 in
theorem w_c28 : (Jvm.Cond.code ({ cls := "ConservativeBiY", name := "slotMaskFor", desc := "(I)I" } : Jvm.MethodName) prog_1_method_14_code (3 : Nat) (Option.some Jvm.ClassFile.FieldType.int)).before args0 about1 = true := code_word (m := ⟨2, 13⟩) (meth := k2m13) (c := k2c13) (by decide +kernel) rfl rfl rfl (by decide +kernel)
set_option maxRecDepth 65536 in
theorem w_c29 : (Jvm.Cond.code ({ cls := "ConservativeBiY", name := "slotOf", desc := "(II)I" } : Jvm.MethodName) prog_1_method_20_code (4 : Nat) (Option.some Jvm.ClassFile.FieldType.int)).before args0 about1 = true := code_word (m := ⟨2, 19⟩) (meth := k2m19) (c := k2c19) (by decide +kernel) rfl rfl rfl (by decide +kernel)
set_option maxRecDepth 65536 in
theorem w_c30 : (Jvm.Cond.code ({ cls := "ConservativeBiY", name := "slotLive", desc := "(II)Z" } : Jvm.MethodName) prog_1_method_22_code (3 : Nat) (Option.some Jvm.ClassFile.FieldType.boolean)).before args0 about1 = true := code_word (m := ⟨2, 21⟩) (meth := k2m21) (c := k2c21) (by decide +kernel) rfl rfl rfl (by decide +kernel)
set_option maxRecDepth 65536 in
theorem w_c31 : (Jvm.Cond.code ({ cls := "ConservativeBiY", name := "pushRoot", desc := "(I)I" } : Jvm.MethodName) prog_1_method_2_code (2 : Nat) (Option.some Jvm.ClassFile.FieldType.int)).before args0 about1 = true := code_word (m := ⟨2, 1⟩) (meth := k2m1) (c := k2c1) (by decide +kernel) rfl rfl rfl (by decide +kernel)
set_option maxRecDepth 65536 in
theorem w_c32 : (Jvm.Cond.code ({ cls := "ConservativeBiY", name := "setRoot", desc := "(II)Z" } : Jvm.MethodName) prog_1_method_4_code (3 : Nat) (Option.some Jvm.ClassFile.FieldType.boolean)).before args0 about1 = true := code_word (m := ⟨2, 3⟩) (meth := k2m3) (c := k2c3) (by decide +kernel) rfl rfl rfl (by decide +kernel)
set_option maxRecDepth 65536 in
theorem w_c33 : (Jvm.Cond.code ({ cls := "ConservativeBiY", name := "popRoot", desc := "()I" } : Jvm.MethodName) prog_1_method_3_code (1 : Nat) (Option.some Jvm.ClassFile.FieldType.int)).before args0 about1 = true := code_word (m := ⟨2, 2⟩) (meth := k2m2) (c := k2c2) (by decide +kernel) rfl rfl rfl (by decide +kernel)
set_option maxRecDepth 65536 in
theorem w_c34 : (Jvm.Cond.code ({ cls := "ConservativeBiY", name := "collect", desc := "()I" } : Jvm.MethodName) prog_1_method_24_code (2 : Nat) (Option.some Jvm.ClassFile.FieldType.int)).before args0 about1 = true := code_word (m := ⟨2, 23⟩) (meth := k2m23) (c := k2c23) (by decide +kernel) rfl rfl rfl (by decide +kernel)
set_option maxRecDepth 65536 in
theorem w_c35 : (Jvm.Cond.code ({ cls := "ConservativeBiY", name := "beginMark", desc := "()V" } : Jvm.MethodName) prog_1_method_25_code (2 : Nat) (Option.none : Option Jvm.ClassFile.FieldType)).before args0 about1 = true := code_word (m := ⟨2, 24⟩) (meth := k2m24) (c := k2c24) (by decide +kernel) rfl rfl rfl (by decide +kernel)
set_option maxRecDepth 65536 in
theorem w_c36 : (Jvm.Cond.code ({ cls := "ConservativeBiY", name := "markRoots", desc := "()V" } : Jvm.MethodName) prog_1_method_26_code (2 : Nat) (Option.none : Option Jvm.ClassFile.FieldType)).before args0 about1 = true := code_word (m := ⟨2, 25⟩) (meth := k2m25) (c := k2c25) (by decide +kernel) rfl rfl rfl (by decide +kernel)
set_option maxRecDepth 65536 in
theorem w_c37 : (Jvm.Cond.code ({ cls := "ConservativeBiY", name := "scanWord", desc := "(I)V" } : Jvm.MethodName) prog_1_method_29_code (5 : Nat) (Option.none : Option Jvm.ClassFile.FieldType)).before args0 about1 = true := code_word (m := ⟨2, 28⟩) (meth := k2m28) (c := k2c28) (by decide +kernel) rfl rfl rfl (by decide +kernel)
set_option maxRecDepth 65536 in
theorem w_c38 : (Jvm.Cond.code ({ cls := "ConservativeBiY", name := "markObject", desc := "(III)V" } : Jvm.MethodName) prog_1_method_30_code (5 : Nat) (Option.none : Option Jvm.ClassFile.FieldType)).before args0 about1 = true := code_word (m := ⟨2, 29⟩) (meth := k2m29) (c := k2c29) (by decide +kernel) rfl rfl rfl (by decide +kernel)
set_option maxRecDepth 65536 in
theorem w_c39 : (Jvm.Cond.code ({ cls := "ConservativeBiY", name := "drainMarkStack", desc := "()V" } : Jvm.MethodName) prog_1_method_27_code (3 : Nat) (Option.none : Option Jvm.ClassFile.FieldType)).before args0 about1 = true := code_word (m := ⟨2, 26⟩) (meth := k2m26) (c := k2c26) (by decide +kernel) rfl rfl rfl (by decide +kernel)
set_option maxRecDepth 65536 in
theorem w_c40 : (Jvm.Cond.code ({ cls := "ConservativeBiY", name := "scanFields", desc := "(I)V" } : Jvm.MethodName) prog_1_method_28_code (7 : Nat) (Option.none : Option Jvm.ClassFile.FieldType)).before args0 about1 = true := code_word (m := ⟨2, 27⟩) (meth := k2m27) (c := k2c27) (by decide +kernel) rfl rfl rfl (by decide +kernel)
set_option maxRecDepth 65536 in
theorem w_c41 : (Jvm.Cond.code ({ cls := "ConservativeBiY", name := "sweepAll", desc := "()V" } : Jvm.MethodName) prog_1_method_31_code (2 : Nat) (Option.none : Option Jvm.ClassFile.FieldType)).before args0 about1 = true := code_word (m := ⟨2, 30⟩) (meth := k2m30) (c := k2c30) (by decide +kernel) rfl rfl rfl (by decide +kernel)
set_option maxRecDepth 65536 in
theorem w_c42 : (Jvm.Cond.code ({ cls := "ConservativeBiY", name := "sweepPage", desc := "(I)V" } : Jvm.MethodName) prog_1_method_32_code (4 : Nat) (Option.none : Option Jvm.ClassFile.FieldType)).before args0 about1 = true := code_word (m := ⟨2, 31⟩) (meth := k2m31) (c := k2c31) (by decide +kernel) rfl rfl rfl (by decide +kernel)
set_option maxRecDepth 65536 in
theorem w_c43 : (Jvm.Cond.code ({ cls := "ConservativeBiY", name := "bitCount", desc := "(I)I" } : Jvm.MethodName) prog_1_method_41_code (4 : Nat) (Option.some Jvm.ClassFile.FieldType.int)).before args0 about1 = true := code_word (m := ⟨2, 40⟩) (meth := k2m40) (c := k2c40) (by decide +kernel) rfl rfl rfl (by decide +kernel)
set_option maxRecDepth 65536 in
theorem w_c44 : (Jvm.Cond.code ({ cls := "ConservativeBiY", name := "store", desc := "(II)Z" } : Jvm.MethodName) prog_1_method_17_code (5 : Nat) (Option.some Jvm.ClassFile.FieldType.boolean)).before args0 about1 = true := code_word (m := ⟨2, 16⟩) (meth := k2m16) (c := k2c16) (by decide +kernel) rfl rfl rfl (by decide +kernel)
def codes1 : List Jvm.Cond := [Jvm.Cond.code x code maxLocals ret, Jvm.Cond.code ({ cls := "ConservativeBiY", name := "<init>", desc := "(II)V" } : Jvm.MethodName) prog_1_method_1_code (5 : Nat) (Option.none : Option Jvm.ClassFile.FieldType), Jvm.Cond.code ({ cls := "java/lang/Object", name := "<init>", desc := "()V" } : Jvm.MethodName) object_method_1_code (1 : Nat) (Option.none : Option Jvm.ClassFile.FieldType), Jvm.Cond.code ({ cls := "ConservativeBiY", name := "validPageMask", desc := "()I" } : Jvm.MethodName) prog_1_method_15_code (1 : Nat) (Option.some Jvm.ClassFile.FieldType.int), Jvm.Cond.code ({ cls := "ConservativeBiYL7", name := "word", desc := "(I)I" } : Jvm.MethodName) method_4_code (1 : Nat) (Option.some Jvm.ClassFile.FieldType.int), Jvm.Cond.code ({ cls := "ConservativeBiYL7", name := "fp", desc := "(LConservativeBiY;)J" } : Jvm.MethodName) method_3_code (4 : Nat) (Option.some Jvm.ClassFile.FieldType.long), Jvm.Cond.code ({ cls := "ConservativeBiY", name := "rootDepth", desc := "()I" } : Jvm.MethodName) prog_1_method_6_code (1 : Nat) (Option.some Jvm.ClassFile.FieldType.int), Jvm.Cond.code ({ cls := "ConservativeBiY", name := "getRoot", desc := "(I)I" } : Jvm.MethodName) prog_1_method_5_code (2 : Nat) (Option.some Jvm.ClassFile.FieldType.int), Jvm.Cond.code ({ cls := "ConservativeBiY", name := "rootIndexValid", desc := "(I)Z" } : Jvm.MethodName) prog_1_method_7_code (2 : Nat) (Option.some Jvm.ClassFile.FieldType.boolean), Jvm.Cond.code ({ cls := "ConservativeBiY", name := "load", desc := "(I)I" } : Jvm.MethodName) prog_1_method_18_code (4 : Nat) (Option.some Jvm.ClassFile.FieldType.int), Jvm.Cond.code ({ cls := "ConservativeBiY", name := "findStart", desc := "(I)I" } : Jvm.MethodName) prog_1_method_23_code (4 : Nat) (Option.some Jvm.ClassFile.FieldType.int), Jvm.Cond.code ({ cls := "ConservativeBiY", name := "pageOf", desc := "(I)I" } : Jvm.MethodName) prog_1_method_19_code (3 : Nat) (Option.some Jvm.ClassFile.FieldType.int), Jvm.Cond.code ({ cls := "ConservativeBiY", name := "objectStart", desc := "(I)I" } : Jvm.MethodName) prog_1_method_33_code (2 : Nat) (Option.some Jvm.ClassFile.FieldType.int), Jvm.Cond.code ({ cls := "ConservativeBiY", name := "objectSize", desc := "(I)I" } : Jvm.MethodName) prog_1_method_34_code (4 : Nat) (Option.some Jvm.ClassFile.FieldType.int), Jvm.Cond.code ({ cls := "ConservativeBiY", name := "pageClass", desc := "(I)I" } : Jvm.MethodName) prog_1_method_35_code (2 : Nat) (Option.some Jvm.ClassFile.FieldType.int), Jvm.Cond.code ({ cls := "ConservativeBiY", name := "pageValid", desc := "(I)Z" } : Jvm.MethodName) prog_1_method_39_code (2 : Nat) (Option.some Jvm.ClassFile.FieldType.boolean), Jvm.Cond.code ({ cls := "ConservativeBiY", name := "pageLiveCount", desc := "(I)I" } : Jvm.MethodName) prog_1_method_36_code (2 : Nat) (Option.some Jvm.ClassFile.FieldType.int), Jvm.Cond.code ({ cls := "ConservativeBiY", name := "isBlacklisted", desc := "(I)Z" } : Jvm.MethodName) prog_1_method_37_code (2 : Nat) (Option.some Jvm.ClassFile.FieldType.boolean), Jvm.Cond.code ({ cls := "ConservativeBiY", name := "liveObjects", desc := "()I" } : Jvm.MethodName) prog_1_method_38_code (1 : Nat) (Option.some Jvm.ClassFile.FieldType.int), Jvm.Cond.code ({ cls := "ConservativeBiY", name := "alloc", desc := "(I)I" } : Jvm.MethodName) prog_1_method_8_code (4 : Nat) (Option.some Jvm.ClassFile.FieldType.int), Jvm.Cond.code ({ cls := "ConservativeBiY", name := "classIndexFor", desc := "(I)I" } : Jvm.MethodName) prog_1_method_13_code (3 : Nat) (Option.some Jvm.ClassFile.FieldType.int), Jvm.Cond.code ({ cls := "ConservativeBiY", name := "allocInClassPage", desc := "(I)I" } : Jvm.MethodName) prog_1_method_9_code (6 : Nat) (Option.some Jvm.ClassFile.FieldType.int), Jvm.Cond.code ({ cls := "ConservativeBiY", name := "lowestBit", desc := "(I)I" } : Jvm.MethodName) prog_1_method_40_code (3 : Nat) (Option.some Jvm.ClassFile.FieldType.int), Jvm.Cond.code ({ cls := "ConservativeBiY", name := "allocInFreshPage", desc := "(I)I" } : Jvm.MethodName) prog_1_method_10_code (4 : Nat) (Option.some Jvm.ClassFile.FieldType.int), Jvm.Cond.code ({ cls := "ConservativeBiY", name := "placeObject", desc := "(II)I" } : Jvm.MethodName) prog_1_method_11_code (5 : Nat) (Option.some Jvm.ClassFile.FieldType.int), Jvm.Cond.code ({ cls := "ConservativeBiY", name := "slotStart", desc := "(II)I" } : Jvm.MethodName) prog_1_method_21_code (3 : Nat) (Option.some Jvm.ClassFile.FieldType.int), Jvm.Cond.code ({ cls := "ConservativeBiY", name := "clearWords", desc := "(II)V" } : Jvm.MethodName) prog_1_method_12_code (6 : Nat) (Option.none : Option Jvm.ClassFile.FieldType), Jvm.Cond.code ({ cls := "ConservativeBiY", name := "refreshPage", desc := "(I)V" } : Jvm.MethodName) prog_1_method_16_code (5 : Nat) (Option.none : Option Jvm.ClassFile.FieldType), Jvm.Cond.code ({ cls := "ConservativeBiY", name := "slotMaskFor", desc := "(I)I" } : Jvm.MethodName) prog_1_method_14_code (3 : Nat) (Option.some Jvm.ClassFile.FieldType.int), Jvm.Cond.code ({ cls := "ConservativeBiY", name := "slotOf", desc := "(II)I" } : Jvm.MethodName) prog_1_method_20_code (4 : Nat) (Option.some Jvm.ClassFile.FieldType.int), Jvm.Cond.code ({ cls := "ConservativeBiY", name := "slotLive", desc := "(II)Z" } : Jvm.MethodName) prog_1_method_22_code (3 : Nat) (Option.some Jvm.ClassFile.FieldType.boolean), Jvm.Cond.code ({ cls := "ConservativeBiY", name := "pushRoot", desc := "(I)I" } : Jvm.MethodName) prog_1_method_2_code (2 : Nat) (Option.some Jvm.ClassFile.FieldType.int), Jvm.Cond.code ({ cls := "ConservativeBiY", name := "setRoot", desc := "(II)Z" } : Jvm.MethodName) prog_1_method_4_code (3 : Nat) (Option.some Jvm.ClassFile.FieldType.boolean), Jvm.Cond.code ({ cls := "ConservativeBiY", name := "popRoot", desc := "()I" } : Jvm.MethodName) prog_1_method_3_code (1 : Nat) (Option.some Jvm.ClassFile.FieldType.int), Jvm.Cond.code ({ cls := "ConservativeBiY", name := "collect", desc := "()I" } : Jvm.MethodName) prog_1_method_24_code (2 : Nat) (Option.some Jvm.ClassFile.FieldType.int), Jvm.Cond.code ({ cls := "ConservativeBiY", name := "beginMark", desc := "()V" } : Jvm.MethodName) prog_1_method_25_code (2 : Nat) (Option.none : Option Jvm.ClassFile.FieldType), Jvm.Cond.code ({ cls := "ConservativeBiY", name := "markRoots", desc := "()V" } : Jvm.MethodName) prog_1_method_26_code (2 : Nat) (Option.none : Option Jvm.ClassFile.FieldType), Jvm.Cond.code ({ cls := "ConservativeBiY", name := "scanWord", desc := "(I)V" } : Jvm.MethodName) prog_1_method_29_code (5 : Nat) (Option.none : Option Jvm.ClassFile.FieldType), Jvm.Cond.code ({ cls := "ConservativeBiY", name := "markObject", desc := "(III)V" } : Jvm.MethodName) prog_1_method_30_code (5 : Nat) (Option.none : Option Jvm.ClassFile.FieldType), Jvm.Cond.code ({ cls := "ConservativeBiY", name := "drainMarkStack", desc := "()V" } : Jvm.MethodName) prog_1_method_27_code (3 : Nat) (Option.none : Option Jvm.ClassFile.FieldType), Jvm.Cond.code ({ cls := "ConservativeBiY", name := "scanFields", desc := "(I)V" } : Jvm.MethodName) prog_1_method_28_code (7 : Nat) (Option.none : Option Jvm.ClassFile.FieldType), Jvm.Cond.code ({ cls := "ConservativeBiY", name := "sweepAll", desc := "()V" } : Jvm.MethodName) prog_1_method_31_code (2 : Nat) (Option.none : Option Jvm.ClassFile.FieldType), Jvm.Cond.code ({ cls := "ConservativeBiY", name := "sweepPage", desc := "(I)V" } : Jvm.MethodName) prog_1_method_32_code (4 : Nat) (Option.none : Option Jvm.ClassFile.FieldType), Jvm.Cond.code ({ cls := "ConservativeBiY", name := "bitCount", desc := "(I)I" } : Jvm.MethodName) prog_1_method_41_code (4 : Nat) (Option.some Jvm.ClassFile.FieldType.int), Jvm.Cond.code ({ cls := "ConservativeBiY", name := "store", desc := "(II)Z" } : Jvm.MethodName) prog_1_method_17_code (5 : Nat) (Option.some Jvm.ClassFile.FieldType.boolean)]
set_option maxRecDepth 65536 in
theorem codes_eq : words1.filter isCode = codes1 := rfl
theorem w_codes : ∀ c ∈ words1.filter isCode, c.before args0 about1 = true := by
  rw [codes_eq]
  intro c hc
  simp only [codes1, List.mem_cons, List.not_mem_nil, or_false] at hc
  rcases hc with rfl | rfl | rfl | rfl | rfl | rfl | rfl | rfl | rfl | rfl | rfl | rfl | rfl | rfl | rfl | rfl | rfl | rfl | rfl | rfl | rfl | rfl | rfl | rfl | rfl | rfl | rfl | rfl | rfl | rfl | rfl | rfl | rfl | rfl | rfl | rfl | rfl | rfl | rfl | rfl | rfl | rfl | rfl | rfl | rfl
  · exact w_c0
  · exact w_c1
  · exact w_c2
  · exact w_c3
  · exact w_c4
  · exact w_c5
  · exact w_c6
  · exact w_c7
  · exact w_c8
  · exact w_c9
  · exact w_c10
  · exact w_c11
  · exact w_c12
  · exact w_c13
  · exact w_c14
  · exact w_c15
  · exact w_c16
  · exact w_c17
  · exact w_c18
  · exact w_c19
  · exact w_c20
  · exact w_c21
  · exact w_c22
  · exact w_c23
  · exact w_c24
  · exact w_c25
  · exact w_c26
  · exact w_c27
  · exact w_c28
  · exact w_c29
  · exact w_c30
  · exact w_c31
  · exact w_c32
  · exact w_c33
  · exact w_c34
  · exact w_c35
  · exact w_c36
  · exact w_c37
  · exact w_c38
  · exact w_c39
  · exact w_c40
  · exact w_c41
  · exact w_c42
  · exact w_c43
  · exact w_c44
set_option maxRecDepth 65536 in
theorem w_t1 : (words1.take 24).all (fun c => isCode c || c.before args0 about1) = true := by decide +kernel
set_option maxRecDepth 65536 in
theorem w_t2 : ((words1.drop 24).take 24).all (fun c => isCode c || c.before args0 about1) = true := by decide +kernel
set_option maxRecDepth 65536 in
theorem w_t3 : (((words1.drop 24).drop 24).take 24).all (fun c => isCode c || c.before args0 about1) = true := by decide +kernel
set_option maxRecDepth 65536 in
theorem w_t4 : ((((words1.drop 24).drop 24).drop 24).take 24).all (fun c => isCode c || c.before args0 about1) = true := by decide +kernel
set_option maxRecDepth 65536 in
theorem w_t5 : (((((words1.drop 24).drop 24).drop 24).drop 24).take 24).all (fun c => isCode c || c.before args0 about1) = true := by decide +kernel
set_option maxRecDepth 65536 in
theorem w_t6 : ((((((words1.drop 24).drop 24).drop 24).drop 24).drop 24).take 24).all (fun c => isCode c || c.before args0 about1) = true := by decide +kernel
set_option maxRecDepth 65536 in
theorem w_t7 : (((((((words1.drop 24).drop 24).drop 24).drop 24).drop 24).drop 24).take 24).all (fun c => isCode c || c.before args0 about1) = true := by decide +kernel
set_option maxRecDepth 65536 in
theorem w_t8 : ((((((((words1.drop 24).drop 24).drop 24).drop 24).drop 24).drop 24).drop 24).take 24).all (fun c => isCode c || c.before args0 about1) = true := by decide +kernel
set_option maxRecDepth 65536 in
theorem w_t9 : (((((((((words1.drop 24).drop 24).drop 24).drop 24).drop 24).drop 24).drop 24).drop 24).take 24).all (fun c => isCode c || c.before args0 about1) = true := by decide +kernel
set_option maxRecDepth 65536 in
theorem w_t10 : (((((((((words1.drop 24).drop 24).drop 24).drop 24).drop 24).drop 24).drop 24).drop 24).drop 24).all (fun c => isCode c || c.before args0 about1) = true := by decide +kernel
theorem w_tables : (allAtoms (Jvm.Cond.code x code maxLocals ret :: tables_1)).before args0 about1 = true := by
  rw [allAtoms_all]
  show words1.all (fun c => c.before args0 about1) = true
  refine all_split ?_ w_codes
  rw [← List.take_append_drop 24 words1, List.all_append, w_t1, ← List.take_append_drop 24 (words1.drop 24), List.all_append, w_t2, ← List.take_append_drop 24 ((words1.drop 24).drop 24), List.all_append, w_t3, ← List.take_append_drop 24 (((words1.drop 24).drop 24).drop 24), List.all_append, w_t4, ← List.take_append_drop 24 ((((words1.drop 24).drop 24).drop 24).drop 24), List.all_append, w_t5, ← List.take_append_drop 24 (((((words1.drop 24).drop 24).drop 24).drop 24).drop 24), List.all_append, w_t6, ← List.take_append_drop 24 ((((((words1.drop 24).drop 24).drop 24).drop 24).drop 24).drop 24), List.all_append, w_t7, ← List.take_append_drop 24 (((((((words1.drop 24).drop 24).drop 24).drop 24).drop 24).drop 24).drop 24), List.all_append, w_t8, ← List.take_append_drop 24 ((((((((words1.drop 24).drop 24).drop 24).drop 24).drop 24).drop 24).drop 24).drop 24), List.all_append, w_t9, w_t10]
  rfl
set_option maxRecDepth 65536 in
theorem w_rest : rest_1_c.before args0 about1 = true := by decide +kernel
set_option maxRecDepth 65536 in
theorem w_case : (Jvm.Cond.and given_1 narrow_1).before args0 about1 = true := by decide +kernel
theorem w_applies : (headSpec (Jvm.Cond.code x code maxLocals ret :: tables_1) room_1).applies x e0.platform about1 = true :=
  (Spec.applies_iff w_frames).mpr ⟨w_running, w_runnable, w_alone, w_named, w_hears, w_ripe, w_room, w_tables⟩
theorem atStart : AtStart classFile x code maxLocals ret World_1 tables_1 room_1 Calls_1 rest_1 Pre_1 launch0 p0 e0 about1 theMethod args0 below0 :=
  ⟨lists_1, trivial, launch0.admits_env _ _ _, launch0.least_env, fairChoices_fair.cas, fairChoices_fair.clock, w_frames, w_args, w_heap, w_applies, trivial, w_rest, w_case⟩
end start1
theorem witness_1 : WitnessClaimed_1 := ⟨start1.p0, start1.e0, start1.about1, start1.theMethod, start1.args0, start1.below0, start1.atStart⟩
end Jvm.Pilot.@@N@@
