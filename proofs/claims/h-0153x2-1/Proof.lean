import JvmDerived
import JvmDerived.Pilot.@@N@@Statement
import JvmDerived.Pilot.@@N@@Code
set_option linter.unusedVariables false
set_option linter.unusedSimpArgs false
namespace Jvm.Pilot.@@N@@
open Jvm Jvm.ClassFile Sem Op Lib Jvm.Free Jvm.Stand Jvm.LawKit Jvm.RoadKit Bundle Jvm.Pilot.@@N@@.Jvm.D
/-! THE ABSTRACT MACHINE: a config (pc, locals, stack, contents) over numbered cells, and its steps over the library's laws (family of example/lawnew). -/
abbrev Sg := (Nat → Nat → Int32) × (Nat → Nat → Int64)
def gi (σ : Sg) (k i : Nat) : Int32 := σ.1 k i
def gj (σ : Sg) (k i : Nat) : Int64 := σ.2 k i
def si (σ : Sg) (k i : Nat) (v : Int32) : Sg := (fun k' i' => if k' = k ∧ i' = i then v else σ.1 k' i', σ.2)
def sj (σ : Sg) (k i : Nat) (v : Int64) : Sg := (σ.1, fun k' i' => if k' = k ∧ i' = i then v else σ.2 k' i')
def zs : Sg := (fun _ _ => 0, fun _ _ => 0)
theorem gi_si (σ : Sg) (k i k' i' : Nat) (v : Int32) : gi (si σ k i v) k' i' = if k' = k ∧ i' = i then v else gi σ k' i' := of_eq_true (eq_self _)
theorem gj_sj (σ : Sg) (k i k' i' : Nat) (v : Int64) : gj (sj σ k i v) k' i' = if k' = k ∧ i' = i then v else gj σ k' i' := of_eq_true (eq_self _)
theorem gi_sj (σ : Sg) (k i k' i' : Nat) (v : Int64) : gi (sj σ k i v) k' i' = gi σ k' i' := of_eq_true (eq_self _)
theorem gj_si (σ : Sg) (k i k' i' : Nat) (v : Int32) : gj (si σ k i v) k' i' = gj σ k' i' := of_eq_true (eq_self _)
theorem gi_zs (k i : Nat) : gi zs k i = 0 := of_eq_true (eq_self _)
theorem gj_zs (k i : Nat) : gj zs k i = 0 := of_eq_true (eq_self _)
def nx (i : Int32) : Nat := i.toInt.toNat
/-- a numbered cell: an object of the class with its first q arrays laid; an array of n places (its own, or one that is only read) -/
abbrev CD := Nat ⊕ (FieldType × Nat × Option (Nat → Int32))
abbrev FS := List (String × String × Nat)
def cv (A : Nat → Addr) : Value → Value
  | .ref k => .ref (A k)
  | v => v
def fv (σ : Sg) (k j q : Nat) : Nat → Value
  | 0 => .int (gi σ k j)
  | 1 => .long (gj σ k j)
  | r + 2 => if r < q then .ref (k + (r + 1)) else .null
def ae (σ : Sg) (k i : Nat) : FieldType → Value
  | .long => .long (gj σ k i)
  | _ => .int (gi σ k i)
def aeo (σ : Sg) (k i : Nat) (ty : FieldType) : Option (Nat → Int32) → Value
  | none => ae σ k i ty
  | some f => .int (f i)
def wrb : CD → Bool
  | .inl _ => true
  | .inr (_, _, o) => o.isNone
def CellOk (Z : State) (C : String) (fs : FS) (h : Heap) (A : Nat → Addr) (σ : Sg) (k : Nat) : CD → Prop
  | .inl q => Exa Z h (A k) C ∧ ∀ (j : Nat) (n d : String) (cd : Nat), fs[j]? = some (n, d, cd) → Fld Z h (A k) C n d (cv A (fv σ k j q cd))
  | .inr (ty, n, o) => ∃ c : Cell, Arr Z h (A k) c ty ∧ c.slots.size = n ∧ ∀ i, i < n → c.slots[i]? = some (aeo σ k i ty o)
def Wd (Z : State) (C : String) (fs : FS) (h : Heap) (A : Nat → Addr) (w : Nat → Option CD) (σ : Sg) : Prop :=
  (∀ k d, w k = some d → CellOk Z C fs h A σ k d) ∧ ∀ k k' d d', w k = some d → w k' = some d' → A k = A k' → k = k'
def Out (h0 h : Heap) (A : Nat → Addr) (w : Nat → Option CD) : Prop := h0.size ≤ h.size ∧ ∀ (b : Addr) (c : Cell), h0[b]? = some c → (∀ k d, w k = some d → wrb d = true → A k ≠ b) → h[b]? = some c
def Nw (n0 : Nat) (A : Nat → Addr) (w : Nat → Option CD) : Prop := ∀ k d, w k = some d → wrb d = true → n0 ≤ A k
theorem Out.refl (h : Heap) (A : Nat → Addr) (w : Nat → Option CD) : Out h h A w := ⟨Nat.le_refl _, fun _ _ q _ => q⟩
theorem cv_cat (A : Nat → Addr) (v : Value) : (cv A v).category = v.category := by cases v <;> rfl
/-! locals -/
def WP (rl : List Slot) : Prop := ∀ k, rl[k]? = some .second ↔ ∃ k', k = k' + 1 ∧ ∃ w : Value, rl[k']? = some (.val w) ∧ w.category = 2
def LsOk (A : Nat → Addr) (Ls rl : List Slot) : Prop := rl.length = Ls.length ∧ WP rl ∧ ∀ (k : Nat) (v : Value), Ls[k]? = some (.val v) → rl[k]? = some (.val (cv A v))
def cl1 (Ls : List Slot) : Nat → List Slot
  | 0 => Ls
  | k + 1 => match Ls[k]? with
    | some (.val u) => if u.category = 2 then Ls.set k .unset else Ls
    | _ => Ls
def st1 (Ls : List Slot) (k : Nat) (v : Value) : List Slot := (cl1 Ls k).set k (.val v)
def st2 (Ls : List Slot) (k : Nat) (v : Value) : List Slot := ((cl1 Ls k).set k (.val v)).set (k + 1) .second
def entX : List Value → List Slot
  | [] => []
  | v :: vs => if v.category = 2 then .val v :: .second :: entX vs else .val v :: entX vs
def entL (vs : List Value) (n : Nat) : List Slot := entX vs ++ List.replicate (n - (entX vs).length) .unset
theorem WP.unset (n : Nat) : WP (List.replicate n .unset) := fun k => by
  constructor
  · intro h; rw [List.getElem?_replicate] at h; split at h <;> cases h
  · rintro ⟨k', -, w, h, -⟩; rw [List.getElem?_replicate] at h; split at h <;> cases h
theorem WP.cons1 {l : List Slot} {v : Value} (h : WP l) (hv : v.category ≠ 2) : WP (.val v :: l) := fun k => by
  cases k with
  | zero => exact ⟨fun q => by simp at q, fun ⟨k', q, _⟩ => by omega⟩
  | succ k =>
    rw [List.getElem?_cons_succ, h k]
    constructor
    · rintro ⟨k', rfl, w, h1, h2⟩; exact ⟨k' + 1, rfl, w, by rw [List.getElem?_cons_succ]; exact h1, h2⟩
    · rintro ⟨k', e, w, h1, h2⟩
      cases k' with
      | zero => simp at h1; subst h1; exact absurd h2 hv
      | succ k' => exact ⟨k', by omega, w, by rw [List.getElem?_cons_succ] at h1; exact h1, h2⟩
theorem WP.cons2 {l : List Slot} {v : Value} (h : WP l) (hv : v.category = 2) : WP (.val v :: .second :: l) := fun k => by
  match k with
  | 0 => exact ⟨fun q => by simp at q, fun ⟨k', q, _⟩ => by omega⟩
  | 1 => exact ⟨fun _ => ⟨0, rfl, v, rfl, hv⟩, fun _ => rfl⟩
  | k + 2 =>
    rw [List.getElem?_cons_succ, List.getElem?_cons_succ, h k]
    constructor
    · rintro ⟨k', rfl, w, h1, h2⟩; exact ⟨k' + 2, rfl, w, by rw [List.getElem?_cons_succ, List.getElem?_cons_succ]; exact h1, h2⟩
    · rintro ⟨k', e, w, h1, h2⟩
      match k' with
      | 0 => omega
      | 1 => simp at h1
      | k' + 2 => exact ⟨k', by omega, w, by rw [List.getElem?_cons_succ, List.getElem?_cons_succ] at h1; exact h1, h2⟩
theorem entX_wp (vs : List Value) (n : Nat) : WP (entX vs ++ List.replicate n .unset) := by
  induction vs with
  | nil => exact WP.unset n
  | cons v vs ih =>
    by_cases hv : v.category = 2
    · simp only [entX, if_pos hv, List.cons_append]; exact ih.cons2 hv
    · simp only [entX, if_neg hv, List.cons_append]; exact ih.cons1 hv
theorem entX_map (A : Nat → Addr) (vs : List Value) : (entX (vs.map (cv A))).length = (entX vs).length ∧ ∀ (k : Nat) (v : Value) (r : List Slot) , (entX vs ++ r)[k]? = some (.val v) → (∀ j : Nat, r[j]? ≠ some (Slot.val v)) → (entX (vs.map (cv A)) ++ r)[k]? = some (.val (cv A v)) := by
  induction vs with
  | nil => exact ⟨rfl, fun k v r h q => absurd h (by simpa [entX] using q k)⟩
  | cons u vs ih =>
    have e : (cv A u).category = 2 ↔ u.category = 2 := by rw [cv_cat]
    by_cases hv : u.category = 2
    · simp only [List.map_cons, entX, if_pos hv, if_pos (e.mpr hv), List.cons_append, List.length_cons, ih.1, true_and]
      intro k v r h q
      match k with
      | 0 => simp at h ⊢; rw [h]
      | 1 => simp at h
      | k + 2 => rw [List.getElem?_cons_succ, List.getElem?_cons_succ] at h ⊢; exact ih.2 k v r h q
    · simp only [List.map_cons, entX, if_neg hv, if_neg (fun x => hv (e.mp x)), List.cons_append, List.length_cons, ih.1, true_and]
      intro k v r h q
      match k with
      | 0 => simp at h ⊢; rw [h]
      | k + 1 => rw [List.getElem?_cons_succ] at h ⊢; exact ih.2 k v r h q
theorem entL_ok (A : Nat → Addr) (vs : List Value) (n : Nat) : LsOk A (entL vs n) (entL (vs.map (cv A)) n) := by
  refine ⟨by simp only [entL, List.length_append, List.length_replicate, (entX_map A vs).1], entX_wp _ _, fun k v h => ?_⟩
  unfold entL at h ⊢
  rw [(entX_map A vs).1]
  exact (entX_map A vs).2 k v _ h fun j q => by rw [List.getElem?_replicate] at q; split at q <;> cases q
theorem entL_arr (vs : List Value) (n : Nat) : argsToLocals vs.toArray n = (entL vs n).toArray := by
  have key : ∀ (vs : List Value) (acc : Array Slot), vs.foldl (fun acc v => if v.category = 2 then (acc.push (.val v)).push .second else acc.push (.val v)) acc = acc ++ (entX vs).toArray := by
    intro vs
    induction vs with
    | nil => intro acc; simp [entX]
    | cons v vs ih =>
      intro acc
      rw [List.foldl_cons, ih]
      by_cases hv : v.category = 2
      · simp only [entX, if_pos hv]; apply Array.toList_inj.mp; simp
      · simp only [entX, if_neg hv]; apply Array.toList_inj.mp; simp
  unfold argsToLocals entL
  simp only [List.foldl_toArray', key]
  apply Array.toList_inj.mp; simp
theorem cl1_len (Ls : List Slot) (k : Nat) : (cl1 Ls k).length = Ls.length := by
  cases k with
  | zero => rfl
  | succ k => simp only [cl1]; split <;> first | rfl | (split <;> simp)
theorem cl1_val {Ls : List Slot} {k k2 : Nat} {v : Value} (h : (cl1 Ls k)[k2]? = some (.val v)) : Ls[k2]? = some (.val v) ∧ (k = k2 + 1 → v.category ≠ 2) := by
  cases k with
  | zero => exact ⟨h, fun q => by omega⟩
  | succ k =>
    simp only [cl1] at h
    split at h
    · rename_i u hu
      split at h
      · rename_i h2
        rw [List.getElem?_set] at h
        split at h
        · split at h <;> cases h
        · rename_i ne; exact ⟨h, fun q => by omega⟩
      · rename_i h2
        refine ⟨h, fun q => ?_⟩
        have : k = k2 := by omega
        subst this
        rw [hu] at h; cases h; exact h2
    · rename_i hno
      refine ⟨h, fun q => ?_⟩
      have : k = k2 := by omega
      subst this
      exact absurd h (hno v)
/-- what a store leaves at each place -/
theorem am_st1 {A : Nat → Addr} {Ls rl : List Slot} {k : Nat} {v : Value} (L : LsOk A Ls rl) (hk : k < Ls.length) (hv : v.category = 1) : ∃ rl' : List Slot, storeLocals rl.toArray k (cv A v) = some rl'.toArray ∧ LsOk A (st1 Ls k v) rl' := by
  obtain ⟨hl, hw, hc⟩ := L
  have hk' : k < rl.length := by omega
  have hcat : (cv A v).category = 1 := by rw [cv_cat]; exact hv
  have hr : rl[k]? = some rl[k] := List.getElem?_eq_getElem hk'
  have hlen : (st1 Ls k v).length = Ls.length := by simp [st1, cl1_len]
  have hclaim : ∀ (j : Nat) (u : Value), (st1 Ls k v)[j]? = some (.val u) → (j = k ∧ u = v) ∨ (j ≠ k ∧ Ls[j]? = some (.val u) ∧ (k = j + 1 → u.category ≠ 2)) := by
    intro j u h
    unfold st1 at h
    rw [List.getElem?_set] at h
    split at h
    · rename_i e; subst e
      split at h
      · cases h; exact Or.inl ⟨rfl, rfl⟩
      · cases h
    · rename_i ne
      exact Or.inr ⟨fun e => ne e.symm, cl1_val h⟩
  cases hs : rl[k] with
  | unset =>
    rw [hs] at hr
    refine ⟨rl.set k (.val (cv A v)), by simp [storeLocals, storeSelf, setAt, hr, hs, hcat, hk'], by simp [hlen, hl], fun j => ?_, fun j u h => ?_⟩
    · rw [List.getElem?_set]
      constructor
      · intro h
        split at h
        · first | cases h | (split at h <;> cases h)
        · obtain ⟨j', rfl, w, h1, h2⟩ := (hw j).mp h
          exact ⟨j', rfl, w, by rw [List.getElem?_set]; rw [if_neg (fun e => by subst e; rw [hr] at h1; cases h1)]; exact h1, h2⟩
      · rintro ⟨j', rfl, w, h1, h2⟩
        rw [List.getElem?_set] at h1
        split at h1
        · first | (cases h1; omega) | (split at h1 <;> first | (cases h1; omega) | cases h1)
        · rw [if_neg (fun e => by have := (hw (j' + 1)).mpr ⟨j', rfl, w, h1, h2⟩; rw [← e, hr] at this; cases this)]
          exact (hw (j' + 1)).mpr ⟨j', rfl, w, h1, h2⟩
    · rcases hclaim j u h with ⟨rfl, rfl⟩ | ⟨ne, h1, h2⟩
      · rw [List.getElem?_set]; simp [hk']
      · rw [List.getElem?_set, if_neg (fun e => ne e.symm)]; exact hc j u h1
  | second =>
    rw [hs] at hr
    obtain ⟨k', rfl, w0, hw1, hw2⟩ := (hw k).mp hr
    refine ⟨(rl.set k' .unset).set (k' + 1) (.val (cv A v)), by simp [storeLocals, storeSelf, setAt, hr, hs, hcat, hk', show k' < rl.length by omega], by simp [hlen, hl], fun j => ?_, fun j u h => ?_⟩
    · rw [List.getElem?_set, List.getElem?_set, List.length_set]
      constructor
      · intro h
        split at h
        · first | cases h | (split at h <;> cases h)
        · rename_i n1
          split at h
          · first | cases h | (split at h <;> cases h)
          · rename_i n2
            obtain ⟨j', rfl, w, h1, h2⟩ := (hw j).mp h
            refine ⟨j', rfl, w, ?_, h2⟩
            rw [List.getElem?_set, List.getElem?_set]
            rw [if_neg (fun e => by subst e; rw [hr] at h1; cases h1), if_neg (fun e => by omega)]; exact h1
      · rintro ⟨j', rfl, w, h1, h2⟩
        rw [List.getElem?_set, List.getElem?_set, List.length_set] at h1
        split at h1
        · first | (cases h1; omega) | (split at h1 <;> first | (cases h1; omega) | cases h1)
        · rename_i n1
          split at h1
          · first | cases h1 | (split at h1 <;> cases h1)
          · rename_i n2
            have q := (hw (j' + 1)).mpr ⟨j', rfl, w, h1, h2⟩
            rw [if_neg (fun e => by omega), if_neg (fun e => by
              have : rl[k']? = some .second := by rw [e]; exact q
              rw [hw1] at this; cases this)]
            exact q
    · rcases hclaim j u h with ⟨rfl, rfl⟩ | ⟨ne, h1, h2⟩
      · rw [List.getElem?_set]; simp [hk']
      · rw [List.getElem?_set, if_neg (fun e => ne e.symm), List.getElem?_set]
        by_cases e : k' = j
        · subst e
          have := hc k' u h1
          rw [hw1] at this; cases this
          rw [cv_cat] at hw2
          exact absurd hw2 (h2 rfl)
        · rw [if_neg e]; exact hc j u h1
  | val r =>
    rw [hs] at hr
    by_cases hr2 : r.category = 2
    · have hsec : rl[k + 1]? = some .second := (hw (k + 1)).mpr ⟨k, rfl, r, hr, hr2⟩
      have hk1 : k + 1 < rl.length := (List.getElem?_eq_some_iff.mp hsec).1
      refine ⟨(rl.set (k + 1) .unset).set k (.val (cv A v)), by simp [storeLocals, storeSelf, setAt, hr, hs, hr2, hcat, hk', hk1], by simp [hlen, hl], fun j => ?_, fun j u h => ?_⟩
      · rw [List.getElem?_set, List.getElem?_set, List.length_set]
        constructor
        · intro h
          split at h
          · first | cases h | (split at h <;> cases h)
          · rename_i n1
            split at h
            · first | cases h | (split at h <;> cases h)
            · rename_i n2
              obtain ⟨j', rfl, w, h1, h2⟩ := (hw j).mp h
              refine ⟨j', rfl, w, ?_, h2⟩
              rw [List.getElem?_set, List.getElem?_set]
              rw [if_neg (fun e => by omega), if_neg (fun e => by rw [← e, hsec] at h1; cases h1)]; exact h1
        · rintro ⟨j', rfl, w, h1, h2⟩
          rw [List.getElem?_set, List.getElem?_set, List.length_set] at h1
          split at h1
          · first | (cases h1; omega) | (split at h1 <;> first | (cases h1; omega) | cases h1)
          · rename_i n1
            split at h1
            · first | cases h1 | (split at h1 <;> cases h1)
            · rename_i n2
              have q := (hw (j' + 1)).mpr ⟨j', rfl, w, h1, h2⟩
              rw [if_neg (fun e => by rw [← e, hr] at q; cases q), if_neg (fun e => by omega)]
              exact q
      · rcases hclaim j u h with ⟨rfl, rfl⟩ | ⟨ne, h1, h2⟩
        · rw [List.getElem?_set]; simp [hk']
        · rw [List.getElem?_set, if_neg (fun e => ne e.symm), List.getElem?_set]
          by_cases e : k + 1 = j
          · subst e
            have := hc _ u h1
            rw [hsec] at this; cases this
          · rw [if_neg e]; exact hc j u h1
    · refine ⟨rl.set k (.val (cv A v)), by simp [storeLocals, storeSelf, setAt, hr, hs, hr2, hcat, hk'], by simp [hlen, hl], fun j => ?_, fun j u h => ?_⟩
      · rw [List.getElem?_set]
        constructor
        · intro h
          split at h
          · first | cases h | (split at h <;> cases h)
          · obtain ⟨j', rfl, w, h1, h2⟩ := (hw j).mp h
            exact ⟨j', rfl, w, by rw [List.getElem?_set]; rw [if_neg (fun e => by subst e; rw [hr] at h1; cases h1; exact hr2 h2)]; exact h1, h2⟩
        · rintro ⟨j', rfl, w, h1, h2⟩
          rw [List.getElem?_set] at h1
          split at h1
          · first | (cases h1; omega) | (split at h1 <;> first | (cases h1; omega) | cases h1)
          · rw [if_neg (fun e => by have := (hw (j' + 1)).mpr ⟨j', rfl, w, h1, h2⟩; rw [← e, hr] at this; cases this)]
            exact (hw (j' + 1)).mpr ⟨j', rfl, w, h1, h2⟩
      · rcases hclaim j u h with ⟨rfl, rfl⟩ | ⟨ne, h1, h2⟩
        · rw [List.getElem?_set]; simp [hk']
        · rw [List.getElem?_set, if_neg (fun e => ne e.symm)]; exact hc j u h1
theorem wp2 {rl rl' : List Slot} {k : Nat} {v : Value} (hw : WP rl) (hv : v.category = 2) (h0 : rl'[k]? = some (.val v)) (h1 : rl'[k + 1]? = some .second)
    (hj : ∀ j, j ≠ k → j ≠ k + 1 → (rl'[j]? = rl[j]? ∧ ¬ (j + 1 = k ∧ rl[k]? = some .second) ∧ ¬ (j = k + 2 ∧ ∃ u : Value, rl[k + 1]? = some (.val u) ∧ u.category = 2)) ∨ (rl'[j]? = some .unset ∧ ((j + 1 = k ∧ rl[k]? = some .second) ∨ (j = k + 2 ∧ ∃ u : Value, rl[k + 1]? = some (.val u) ∧ u.category = 2)))) : WP rl' := fun j => by
  constructor
  · intro h
    by_cases e1 : j = k
    · subst e1; rw [h0] at h; cases h
    by_cases e2 : j = k + 1
    · exact ⟨k, e2, v, h0, hv⟩
    rcases hj j e1 e2 with ⟨q, n1, n2⟩ | ⟨q, -⟩
    · rw [q] at h
      obtain ⟨j', rfl, w, a1, a2⟩ := (hw j).mp h
      refine ⟨j', rfl, w, ?_, a2⟩
      have d1 : j' ≠ k := fun e => e2 (by omega)
      have d2 : j' ≠ k + 1 := fun e => n2 ⟨by omega, w, by rw [← e]; exact a1, a2⟩
      rcases hj j' d1 d2 with ⟨q', -⟩ | ⟨-, ⟨z1, z2⟩ | ⟨z1, u, z2, z3⟩⟩
      · rw [q']; exact a1
      · exact absurd z1 e1
      · have := (hw (k + 2)).mpr ⟨k + 1, rfl, u, z2, z3⟩
        rw [← z1, a1] at this; cases this
    · rw [q] at h; cases h
  · rintro ⟨j', rfl, w, a1, a2⟩
    by_cases e1 : j' = k
    · subst e1; exact h1
    by_cases e2 : j' = k + 1
    · subst e2; rw [h1] at a1; cases a1
    rcases hj j' e1 e2 with ⟨q, n1, n2⟩ | ⟨q, -⟩
    · rw [q] at a1
      have s := (hw (j' + 1)).mpr ⟨j', rfl, w, a1, a2⟩
      have d1 : j' + 1 ≠ k := fun e => n1 ⟨e, by rw [← e]; exact s⟩
      have d2 : j' + 1 ≠ k + 1 := fun e => e1 (by omega)
      rcases hj (j' + 1) d1 d2 with ⟨q', -⟩ | ⟨-, ⟨z1, z2⟩ | ⟨z1, -⟩⟩
      · rw [q']; exact s
      · obtain ⟨k', y1, w', y2, y3⟩ := (hw k).mp z2
        have : k' = j' + 1 := by omega
        subst this
        rw [s] at y2; cases y2
      · exact absurd (by omega) e2
    · rw [q] at a1; cases a1
theorem am_st2 {A : Nat → Addr} {Ls rl : List Slot} {k : Nat} {v : Value} (L : LsOk A Ls rl) (hk : k + 1 < Ls.length) (hv : v.category = 2) : ∃ rl' : List Slot, storeLocals rl.toArray k (cv A v) = some rl'.toArray ∧ LsOk A (st2 Ls k v) rl' := by
  obtain ⟨hl, hw, hc⟩ := L
  have hk' : k < rl.length := by omega
  have hk1 : k + 1 < rl.length := by omega
  have hcat : (cv A v).category = 2 := by rw [cv_cat]; exact hv
  have hr : rl[k]? = some rl[k] := List.getElem?_eq_getElem hk'
  have hr1 : rl[k + 1]? = some rl[k + 1] := List.getElem?_eq_getElem hk1
  have hlen : (st2 Ls k v).length = Ls.length := by simp [st2, cl1_len]
  have fin : ∀ rl' : List Slot, rl'.length = rl.length → rl'[k]? = some (.val (cv A v)) → rl'[k + 1]? = some .second →
      (∀ j, j ≠ k → j ≠ k + 1 → (rl'[j]? = rl[j]? ∧ ¬ (j + 1 = k ∧ rl[k]? = some .second) ∧ ¬ (j = k + 2 ∧ ∃ u : Value, rl[k + 1]? = some (.val u) ∧ u.category = 2)) ∨ (rl'[j]? = some .unset ∧ ((j + 1 = k ∧ rl[k]? = some .second) ∨ (j = k + 2 ∧ ∃ u : Value, rl[k + 1]? = some (.val u) ∧ u.category = 2)))) → LsOk A (st2 Ls k v) rl' := by
    intro rl' e0 h0 h1 hj
    refine ⟨by omega, wp2 hw hcat h0 h1 hj, fun j u h => ?_⟩
    unfold st2 at h
    rw [List.getElem?_set] at h
    split at h
    · first | cases h | (split at h <;> cases h)
    · rename_i n2
      rw [List.getElem?_set] at h
      split at h
      · rename_i e; subst e
        split at h
        · cases h; exact h0
        · cases h
      · rename_i n1
        obtain ⟨a1, a2⟩ := cl1_val h
        have a3 := hc j u a1
        rcases hj j (fun e => n1 e.symm) (fun e => n2 e.symm) with ⟨q, -⟩ | ⟨-, ⟨z1, z2⟩ | ⟨z1, y, z2, z3⟩⟩
        · rw [q]; exact a3
        · obtain ⟨k', y1, w', y2, y3⟩ := (hw k).mp z2
          have : k' = j := by omega
          subst this
          rw [a3] at y2; cases y2
          rw [cv_cat] at y3
          exact absurd y3 (a2 y1)
        · have := (hw (k + 2)).mpr ⟨k + 1, rfl, y, z2, z3⟩
          rw [← z1, a3] at this; cases this
  by_cases c2 : ∃ u : Value, rl[k + 1]? = some (.val u) ∧ u.category = 2
  · obtain ⟨u, u1, u2⟩ := c2
    have hs1 : rl[k + 1] = .val u := by rw [u1] at hr1; exact (Option.some.inj hr1).symm
    have h3 : rl[k + 2]? = some .second := (hw (k + 2)).mpr ⟨k + 1, rfl, u, u1, u2⟩
    have hk2 : k + 2 < rl.length := (List.getElem?_eq_some_iff.mp h3).1
    cases hs : rl[k] with
    | unset =>
      rw [hs] at hr
      refine ⟨((rl.set k (.val (cv A v))).set (k + 2) .unset).set (k + 1) .second, by simp [storeLocals, storeSelf, setAt, hr, hs, hcat, hk', hk1, hk2, u1, u2, hs1], fin _ (by simp) (by simp [List.getElem?_set, hk']) (by simp [List.getElem?_set, hk1]) fun j n1 n2 => ?_⟩
      by_cases e : j = k + 2
      · subst e; exact Or.inr ⟨by simp [List.getElem?_set, hk2], Or.inr ⟨rfl, u, u1, u2⟩⟩
      · exact Or.inl ⟨by simp [List.getElem?_set, Ne.symm n1, Ne.symm n2, Ne.symm e], fun q => (by rw [hr] at q; cases q.2), fun q => e q.1⟩
    | second =>
      rw [hs] at hr
      obtain ⟨k', rfl, w0, hw1, hw2⟩ := (hw k).mp hr
      have ev : ∀ l1 : List Slot, l1.length = rl.length → l1[k' + 1 + 1]? = some (.val u) → storeSelf l1.toArray (k' + 1) (cv A v) = some (((l1.set (k' + 1) (.val (cv A v))).set (k' + 1 + 2) .unset).set (k' + 1 + 1) .second).toArray := by
        intro l1 e1 e2
        have a1 : k' + 1 < l1.length := by omega
        have a2 : k' + 1 + 1 < l1.length := by omega
        have a3 : k' + 1 + 2 < l1.length := by omega
        have a4 : l1[k' + 1 + 1] = .val u := by rw [List.getElem?_eq_getElem a2] at e2; exact Option.some.inj e2
        simp [storeSelf, setAt, hcat, a1, a2, a3, a4, u2]
      have hk0 : k' < rl.length := by omega
      refine ⟨(((rl.set k' .unset).set (k' + 1) (.val (cv A v))).set (k' + 1 + 2) .unset).set (k' + 1 + 1) .second, by
        simp only [storeLocals, List.getElem?_toArray, hr, Option.bind_eq_bind, Option.bind_some, setAt, List.size_toArray, Nat.add_sub_cancel, if_pos hk0, List.setIfInBounds_toArray]
        exact ev _ (by simp) (by rw [List.getElem?_set, if_neg (by omega)]; exact u1), fin _ (by simp) (by simp [List.getElem?_set, hk']) (by simp [List.getElem?_set, hk1]) fun j n1 n2 => ?_⟩
      by_cases e : j = k' + 1 + 2
      · subst e; exact Or.inr ⟨by simp [List.getElem?_set, hk2], Or.inr ⟨rfl, u, u1, u2⟩⟩
      by_cases e' : j = k'
      · subst e'; exact Or.inr ⟨by rw [List.getElem?_set, if_neg (by omega), List.getElem?_set, if_neg (by omega), List.getElem?_set, if_neg (by omega), List.getElem?_set, if_pos rfl, if_pos hk0], Or.inl ⟨rfl, hr⟩⟩
      · exact Or.inl ⟨by simp [List.getElem?_set, Ne.symm n1, Ne.symm n2, Ne.symm e, Ne.symm e'], fun q => e' (by omega), fun q => e q.1⟩
    | val r =>
      rw [hs] at hr
      have hr2 : r.category ≠ 2 := fun q => by
        have := (hw (k + 1)).mpr ⟨k, rfl, r, hr, q⟩
        rw [u1] at this; cases this
      refine ⟨((rl.set k (.val (cv A v))).set (k + 2) .unset).set (k + 1) .second, by simp [storeLocals, storeSelf, setAt, hr, hs, hcat, hk', hk1, hk2, u1, u2, hs1, hr2], fin _ (by simp) (by simp [List.getElem?_set, hk']) (by simp [List.getElem?_set, hk1]) fun j n1 n2 => ?_⟩
      by_cases e : j = k + 2
      · subst e; exact Or.inr ⟨by simp [List.getElem?_set, hk2], Or.inr ⟨rfl, u, u1, u2⟩⟩
      · exact Or.inl ⟨by simp [List.getElem?_set, Ne.symm n1, Ne.symm n2, Ne.symm e], fun q => (by rw [hr] at q; cases q.2), fun q => e q.1⟩
  · have hself : ∀ l1 : List Slot, l1.length = rl.length → (∀ u : Value, l1[k + 1]? = some (.val u) → u.category ≠ 2) → storeSelf l1.toArray k (cv A v) = some ((l1.set k (.val (cv A v))).set (k + 1) .second).toArray := by
      intro l1 e1 e2
      have a1 : k < l1.length := by omega
      have a2 : k + 1 < l1.length := by omega
      have a3 : l1[k + 1]? = some l1[k + 1] := List.getElem?_eq_getElem a2
      cases hq : l1[k + 1] with
      | unset => simp [storeSelf, setAt, hcat, a1, a2, hq]
      | second => simp [storeSelf, setAt, hcat, a1, a2, hq]
      | val y =>
        have : y.category ≠ 2 := e2 y (by rw [a3, hq])
        simp [storeSelf, setAt, hcat, a1, a2, hq, this]
    have hno : ∀ u : Value, rl[k + 1]? = some (.val u) → u.category ≠ 2 := fun u h1 h2 => c2 ⟨u, h1, h2⟩
    cases hs : rl[k] with
    | unset =>
      rw [hs] at hr
      refine ⟨(rl.set k (.val (cv A v))).set (k + 1) .second, by simp only [storeLocals, List.getElem?_toArray, hr, Option.bind_eq_bind, Option.bind_some]; exact hself rl rfl hno, fin _ (by simp) (by simp [List.getElem?_set, hk']) (by simp [List.getElem?_set, hk1]) fun j n1 n2 => ?_⟩
      exact Or.inl ⟨by simp [List.getElem?_set, Ne.symm n1, Ne.symm n2], fun q => (by rw [hr] at q; cases q.2), fun q => c2 q.2⟩
    | second =>
      rw [hs] at hr
      obtain ⟨k', rfl, w0, hw1, hw2⟩ := (hw k).mp hr
      have hk0 : k' < rl.length := by omega
      refine ⟨((rl.set k' .unset).set (k' + 1) (.val (cv A v))).set (k' + 1 + 1) .second, ?_, fin _ (by simp) (by simp [List.getElem?_set, hk']) (by simp [List.getElem?_set, hk1]) fun j n1 n2 => ?_⟩
      · have := hself (rl.set k' .unset) (by simp) (fun u h => hno u (by rw [List.getElem?_set, if_neg (by omega)] at h; exact h))
        simp only [storeLocals, List.getElem?_toArray, hr, Option.bind_eq_bind, Option.bind_some, setAt, List.size_toArray, Nat.add_sub_cancel, if_pos hk0, List.setIfInBounds_toArray]
        exact this
      · by_cases e' : j = k'
        · subst e'; exact Or.inr ⟨by rw [List.getElem?_set, if_neg (by omega), List.getElem?_set, if_neg (by omega), List.getElem?_set, if_pos rfl, if_pos hk0], Or.inl ⟨rfl, hr⟩⟩
        · exact Or.inl ⟨by simp [List.getElem?_set, Ne.symm n1, Ne.symm n2, Ne.symm e'], fun q => e' (by omega), fun q => c2 q.2⟩
    | val r =>
      rw [hs] at hr
      by_cases hr2 : r.category = 2
      · refine ⟨(rl.set k (.val (cv A v))).set (k + 1) .second, ?_, fin _ (by simp) (by simp [List.getElem?_set, hk']) (by simp [List.getElem?_set, hk1]) fun j n1 n2 => ?_⟩
        · have := hself (rl.set (k + 1) .unset) (by simp) (fun u h => by rw [List.getElem?_set, if_pos rfl] at h; split at h <;> cases h)
          simp only [storeLocals, List.getElem?_toArray, hr, Option.bind_eq_bind, Option.bind_some, if_pos hr2, setAt, List.size_toArray, if_pos hk1, List.setIfInBounds_toArray]
          rw [this]
          congr 2
          apply List.ext_getElem?
          intro j
          simp only [List.getElem?_set, List.length_set]
          by_cases e : k + 1 = j
          · simp [e]
          · simp [e]
        · exact Or.inl ⟨by simp [List.getElem?_set, Ne.symm n1, Ne.symm n2], fun q => (by rw [hr] at q; cases q.2), fun q => c2 q.2⟩
      · refine ⟨(rl.set k (.val (cv A v))).set (k + 1) .second, by simp only [storeLocals, List.getElem?_toArray, hr, Option.bind_eq_bind, Option.bind_some, if_neg hr2]; exact hself rl rfl hno, fin _ (by simp) (by simp [List.getElem?_set, hk']) (by simp [List.getElem?_set, hk1]) fun j n1 n2 => ?_⟩
        exact Or.inl ⟨by simp [List.getElem?_set, Ne.symm n1, Ne.symm n2], fun q => (by rw [hr] at q; cases q.2), fun q => c2 q.2⟩

def Cx (p : Program) (s : State) (m : MethodId) (meth : Method) (c : Code) (Z : State) (own : String) (bytes : ByteArray) (maxL : Nat) (ret : Option FieldType) (mn : String) : Prop :=
  p.tables.exec = Jvm.exec ∧ Z.Warmed39 s.vm ∧ c.code = bytes ∧ s.vm.findClass own = some m.cls ∧ c.maxLocals = maxL ∧ meth.sig.returnType = ret ∧ meth.locks = false ∧ meth.name = mn
def OkR (p : Program) (l : Launch) (e : Env) (R : Room) (s : State) (m : MethodId) (args : Array Value) (below : List Frame) (meth : Method) (c : Code) (Z : State) (C : String) (fs : FS) (n0 : Nat) (h0 : Heap) {α : Type} (F : α → Option Value → Heap → Prop) (A : Nat → Addr) (w : Nat → Option CD) (cells slots pc : Nat) (Ls : List Slot) (St : List Value) (σ : Sg) (t : Option α) : Prop :=
  ∀ x, t = some x → ∀ (T : State) (locs : List Loc) (rl : List Slot), Stand p l e R s m args below meth c T locs cells slots → Wd Z C fs T.heap A w σ → Out h0 T.heap A w → Nw n0 A w → Fr n0 locs → LsOk A Ls rl →
    ∃ (s₂ : State) (o : Outcome), Steps p.tables e below (T.setTop (mkF m pc rl.toArray (St.map (cv A)))) s₂ ∧ s₂.status = .running ∧ Ended s₂ below o ∧ ∃ (v : Option Value) (L : List Loc), o = .returned v ∧ (F x v s₂.heap ∧ Fr n0 L) ∧ FrameEnd s o s₂ L R.cells R.slots
def lkp {β : Type} : List (Nat × β) → Nat → Option β
  | [], _ => none
  | (a, b) :: r, k => if a = k then some b else lkp r k
theorem lkp_mem {β : Type} : ∀ {l : List (Nat × β)} {k : Nat} {b : β}, lkp l k = some b → (k, b) ∈ l
  | (a, b') :: r, k, b, h => by
    unfold lkp at h
    split at h
    · rename_i e; subst e; cases h; exact List.mem_cons_self
    · exact List.mem_cons_of_mem _ (lkp_mem h)
def ilen : Instr → Nat
  | .bipush _ => 2
  | .sipush _ => 3
  | .ldc _ => 2
  | .ldc2_w _ => 3
  | .iload _ => 2
  | .lload _ => 2
  | .aload _ => 2
  | .istore _ => 2
  | .lstore _ => 2
  | .astore _ => 2
  | .iinc _ _ => 3
  | .getfield _ => 3
  | .putfield _ => 3
  | .goto _ => 3
  | _ => 1
def npc (pc : Nat) : Instr → Nat
  | .goto o => ((pc : Int) + o).toNat
  | i => pc + ilen i
def jok (pc : Nat) : Instr → Bool
  | .goto o => decide (0 ≤ (pc : Int) + o)
  | _ => true
def ic : Int → Int32
  | .negSucc 0 => -1
  | k => Int32.ofInt k
theorem ic_eq (k : Int) : ic k = Int32.ofInt k := by
  unfold ic; split <;> rfl
theorem x_sipush {tb : Tables} [Ours tb] {e : Env} {below : List Frame} {T target : State} {m : MethodId} {c : Code} {g : JFrame} (h : At T m c below) (hx : tb.exec = Jvm.exec) (hg : g.method = m) {i : Int} (hd : decode c.code g.pc = .ok (.sipush i, 3))
    (hr : Steps tb e below (T.setTop { g with pc := g.pc + 3, stack := .int (Int16.ofInt i).toInt32 :: g.stack }) target) : Steps tb e below (T.setTop g) target := by
  subst hg
  jvm_step h [h.top, hx, hd]
  exact hr
def ev1 (w : Nat → Option CD) (fs : FS) (fl pfl : List (Nat × Nat)) (kI : List (Nat × Int32)) (kJ : List (Nat × Int64)) (i : Instr) (Ls : List Slot) (St : List Value) (σ : Sg) : Option (List Slot × List Value × Sg) :=
  match i with
  | .iadd => match St with
    | .int y :: .int x :: r => some (Ls, .int (x + y) :: r, σ)
    | _ => none
  | .isub => match St with
    | .int y :: .int x :: r => some (Ls, .int (x - y) :: r, σ)
    | _ => none
  | .imul => match St with
    | .int y :: .int x :: r => some (Ls, .int (x * y) :: r, σ)
    | _ => none
  | .iand => match St with
    | .int y :: .int x :: r => some (Ls, .int (x &&& y) :: r, σ)
    | _ => none
  | .ior => match St with
    | .int y :: .int x :: r => some (Ls, .int (x ||| y) :: r, σ)
    | _ => none
  | .ixor => match St with
    | .int y :: .int x :: r => some (Ls, .int (x ^^^ y) :: r, σ)
    | _ => none
  | .ishl => match St with
    | .int y :: .int x :: r => some (Ls, .int (x <<< (y &&& 31)) :: r, σ)
    | _ => none
  | .ishr => match St with
    | .int y :: .int x :: r => some (Ls, .int (x >>> (y &&& 31)) :: r, σ)
    | _ => none
  | .iushr => match St with
    | .int y :: .int x :: r => some (Ls, .int (XT.ushr x y) :: r, σ)
    | _ => none
  | .ladd => match St with
    | .long y :: .long x :: r => some (Ls, .long (x + y) :: r, σ)
    | _ => none
  | .lsub => match St with
    | .long y :: .long x :: r => some (Ls, .long (x - y) :: r, σ)
    | _ => none
  | .lmul => match St with
    | .long y :: .long x :: r => some (Ls, .long (x * y) :: r, σ)
    | _ => none
  | .land => match St with
    | .long y :: .long x :: r => some (Ls, .long (x &&& y) :: r, σ)
    | _ => none
  | .lor => match St with
    | .long y :: .long x :: r => some (Ls, .long (x ||| y) :: r, σ)
    | _ => none
  | .lxor => match St with
    | .long y :: .long x :: r => some (Ls, .long (x ^^^ y) :: r, σ)
    | _ => none
  | .lshl => match St with
    | .int y :: .long x :: r => some (Ls, .long (x <<< (y.toInt64 &&& 63)) :: r, σ)
    | _ => none
  | .lushr => match St with
    | .int y :: .long x :: r => some (Ls, .long (XT.ushrL x y) :: r, σ)
    | _ => none
  | .lshr => match St with
    | .int y :: .long x :: r => some (Ls, .long (x >>> (y.toInt64 &&& 63)) :: r, σ)
    | _ => none
  | .lcmp => match St with
    | .long y :: .long x :: r => some (Ls, .int (XT.cmpL x y) :: r, σ)
    | _ => none
  | .ineg => match St with
    | .int x :: r => some (Ls, .int (-x) :: r, σ)
    | _ => none
  | .lneg => match St with
    | .long x :: r => some (Ls, .long (-x) :: r, σ)
    | _ => none
  | .i2l => match St with
    | .int x :: r => some (Ls, .long (x.toInt64) :: r, σ)
    | _ => none
  | .l2i => match St with
    | .long x :: r => some (Ls, .int (x.toInt32) :: r, σ)
    | _ => none
  | .i2b => match St with
    | .int x :: r => some (Ls, .int (x.toInt8.toInt32) :: r, σ)
    | _ => none
  | .iconst k => some (Ls, .int (ic k) :: St, σ)
  | .bipush k => some (Ls, .int (Int8.ofInt k).toInt32 :: St, σ)
  | .sipush k => some (Ls, .int (Int16.ofInt k).toInt32 :: St, σ)
  | .lconst k => some (Ls, .long (Int64.ofNat k) :: St, σ)
  | .ldc i => match lkp kI i with
    | some v => some (Ls, .int v :: St, σ)
    | none => none
  | .ldc2_w i => match lkp kJ i with
    | some v => some (Ls, .long v :: St, σ)
    | none => none
  | .iload_n k => match Ls[k.val]? with
    | some (.val (.int v)) => some (Ls, .int v :: St, σ)
    | _ => none
  | .iload k => match Ls[k]? with
    | some (.val (.int v)) => some (Ls, .int v :: St, σ)
    | _ => none
  | .lload_n k => match Ls[k.val]? with
    | some (.val (.long v)) => some (Ls, .long v :: St, σ)
    | _ => none
  | .lload k => match Ls[k]? with
    | some (.val (.long v)) => some (Ls, .long v :: St, σ)
    | _ => none
  | .aload_n k => match Ls[k.val]? with
    | some (.val (.ref v)) => some (Ls, .ref v :: St, σ)
    | _ => none
  | .aload k => match Ls[k]? with
    | some (.val (.ref v)) => some (Ls, .ref v :: St, σ)
    | _ => none
  | .istore_n k => match St with
    | .int v :: r => if k.val < Ls.length then some (st1 Ls k.val (.int v), r, σ) else none
    | _ => none
  | .istore k => match St with
    | .int v :: r => if k < Ls.length then some (st1 Ls k (.int v), r, σ) else none
    | _ => none
  | .astore_n k => match St with
    | .ref v :: r => if k.val < Ls.length then some (st1 Ls k.val (.ref v), r, σ) else none
    | _ => none
  | .astore k => match St with
    | .ref v :: r => if k < Ls.length then some (st1 Ls k (.ref v), r, σ) else none
    | _ => none
  | .lstore_n k => match St with
    | .long v :: r => if k.val + 1 < Ls.length then some (st2 Ls k.val (.long v), r, σ) else none
    | _ => none
  | .lstore k => match St with
    | .long v :: r => if k + 1 < Ls.length then some (st2 Ls k (.long v), r, σ) else none
    | _ => none
  | .iinc k c => match Ls[k]? with
    | some (.val (.int v)) => if k < Ls.length then some (st1 Ls k (.int (v + ic c)), St, σ) else none
    | _ => none
  | .dup => match St with
    | .ref v :: r => some (Ls, .ref v :: .ref v :: r, σ)
    | .int v :: r => some (Ls, .int v :: .int v :: r, σ)
    | _ => none
  | .pop => match St with
    | .int v :: r => some (Ls, r, σ)
    | _ => none
  | .goto _ => some (Ls, St, σ)
  | .getfield i => match St with
    | .ref k :: r => match w k with
      | some (.inl q) => match lkp fl i with
        | some j => match fs[j]? with
          | some (_, _, cd) => some (Ls, fv σ k j q cd :: r, σ)
          | none => none
        | none => none
      | _ => none
    | _ => none
  | .putfield i => match St with
    | .int x :: .ref k :: r => match w k with
      | some (.inl _) => match lkp pfl i with
        | some j => match fs[j]? with
          | some (_, _, 0) => some (Ls, r, si σ k j x)
          | _ => none
        | none => none
      | _ => none
    | .long x :: .ref k :: r => match w k with
      | some (.inl _) => match lkp pfl i with
        | some j => match fs[j]? with
          | some (_, _, 1) => some (Ls, r, sj σ k j x)
          | _ => none
        | none => none
      | _ => none
    | _ => none
  | _ => none

def FsOk (Z : State) (a0 : Array Value) (C : String) (fs : FS) : Prop := ∀ (j : Nat) (n d : String) (cd : Nat), fs[j]? = some (n, d, cd) → Laid Z a0 C C n d ∧ (∃ ty, parseFieldDescriptor d = some ty ∧ (cd = 0 → ty = .int) ∧ (cd = 1 → ty = .long) ∧ (2 ≤ cd → ∃ t, ty = .array t)) ∧ ∀ (j' : Nat) (n' d' : String) (cd' : Nat), fs[j']? = some (n', d', cd') → n = n' → j = j'
def Lay1 (Z : State) (a0 : Array Value) (C own mn n d : String) : Prop := (Cond.lays C C n d).before a0 Z = true ∨ ((Cond.laysFinal C C n d).before a0 Z = true ∧ own = C ∧ mn = "<init>")
def Tab (Z : State) (a0 : Array Value) (C own mn : String) (fs : FS) (fl pfl : List (Nat × Nat)) (kI : List (Nat × Int32)) (kJ : List (Nat × Int64)) : Prop :=
  (∀ x ∈ fl, ∃ n d cd, fs[x.2]? = some (n, d, cd) ∧ (Cond.fieldLink own x.1 C n d).before a0 Z = true) ∧ (∀ x ∈ pfl, ∃ n d cd, fs[x.2]? = some (n, d, cd) ∧ (Cond.fieldLink own x.1 C n d).before a0 Z = true ∧ Lay1 Z a0 C own mn n d) ∧
  (∀ x ∈ kI, (Cond.constant own x.1 x.2).before a0 Z = true) ∧ ∀ x ∈ kJ, (Cond.constantLong own x.1 x.2).before a0 Z = true
section AM
variable {p : Program} {l : Launch} {e : Env} {R : Room} {s : State} {m : MethodId} {args : Array Value} {below : List Frame} {meth : Method} {c : Code} {Z : State} {a0 : Array Value} {C own : String} {bytes : ByteArray} {maxL : Nat} {ret : Option FieldType} {mn : String} {fs : FS} {fl pfl : List (Nat × Nat)} {kI : List (Nat × Int32)} {kJ : List (Nat × Int64)} {n0 kk : Nat} {h0 : Heap} {α : Type} {F : α → Option Value → Heap → Prop} {A : Nat → Addr} {w : Nat → Option CD} {cells slots pc : Nat} {Ls Ls' : List Slot} {St St' : List Value} {σ σ' : Sg} {t : Option α}
theorem am_ld {rl : List Slot} (L : LsOk A Ls rl) {k : Nat} {v : Value} (h : Ls[k]? = some (.val v)) : rl.toArray[k]? = some (.val (cv A v)) := by
  rw [List.getElem?_toArray]; exact L.2.2 k v h
theorem am_none (h : t = none) : OkR p l e R s m args below meth c Z C fs n0 h0 F A w cells slots pc Ls St σ t := fun x hx => by rw [h] at hx; cases hx
/-- one place of cell k is written -/
theorem Wd.write {h h' : Heap} {k sl : Nat} {v : Value} {d : CD} (W : Wd Z C fs h A w σ) (hk : w k = some d) (Q : Wr h h' (A k) sl v) (hσ : ∀ k', k' ≠ k → ∀ i, gi σ' k' i = gi σ k' i ∧ gj σ' k' i = gj σ k' i) (hok : CellOk Z C fs h' A σ' k d) : Wd Z C fs h' A w σ' := by
  refine ⟨fun k' d' hk' => ?_, W.2⟩
  by_cases ek : k' = k
  · subst ek; rw [hk] at hk'; cases hk'; exact hok
  · have ne : A k' ≠ A k := fun q => ek (W.2 _ _ _ _ hk' hk q)
    have := W.1 k' d' hk'
    rcases d' with q | ⟨ty, n, o⟩
    · refine ⟨this.1.wr Q, fun j n d cd hj => ?_⟩
      have e1 : fv σ' k' j q cd = fv σ k' j q cd := by
        match cd with
        | 0 => simp only [fv, (hσ k' ek j).1]
        | 1 => simp only [fv, (hσ k' ek j).2]
        | r + 2 => rfl
      rw [e1]
      exact (this.2 j n d cd hj).other Q (Or.inl ne)
    · obtain ⟨cl, a1, a2, a3⟩ := this
      refine ⟨cl, a1.other Q ne, a2, fun i hi => ?_⟩
      have e1 : aeo σ' k' i ty o = aeo σ k' i ty o := by
        cases o with
        | none => cases ty <;> simp only [aeo, ae, (hσ k' ek i).1, (hσ k' ek i).2]
        | some f => rfl
      rw [e1]; exact a3 i hi
theorem Out.write {h h' : Heap} {k sl : Nat} {v : Value} {d : CD} (O : Out h0 h A w) (hk : w k = some d) (hd : wrb d = true) (Q : Wr h h' (A k) sl v) : Out h0 h' A w := by
  refine ⟨by rw [Q.size]; exact O.1, fun b c hb hn => ?_⟩
  obtain ⟨cb, e1, -, -, -, e5, -⟩ := wr_at Q (O.2 b c hb hn)
  rw [← e5 (hn k d hk hd).symm]; exact e1
theorem si_off (σ : Sg) (k j : Nat) (x : Int32) : ∀ k', k' ≠ k → ∀ i, gi (si σ k j x) k' i = gi σ k' i ∧ gj (si σ k j x) k' i = gj σ k' i := fun k' ne i => ⟨by rw [gi_si, if_neg (fun q => ne q.1)], rfl⟩
theorem sj_off (σ : Sg) (k j : Nat) (x : Int64) : ∀ k', k' ≠ k → ∀ i, gi (sj σ k j x) k' i = gi σ k' i ∧ gj (sj σ k j x) k' i = gj σ k' i := fun k' ne i => ⟨rfl, by rw [gj_sj, if_neg (fun q => ne q.1)]⟩
theorem am_getf (hc : Cx p s m meth c Z own bytes maxL ret mn) {k q j i cd : Nat} {n d : String} (hk : w k = some (.inl q)) (hfs : fs[j]? = some (n, d, cd)) (wl : (Cond.fieldLink own i C n d).before a0 Z = true) (hd : decode bytes pc = .ok (.getfield i, 3))
    (κ : OkR p l e R s m args below meth c Z C fs n0 h0 F A w cells slots (pc + 3) Ls (fv σ k j q cd :: St) σ t) : OkR p l e R s m args below meth c Z C fs n0 h0 F A w cells slots pc Ls (.ref k :: St) σ t := by
  intro x hx T locs rl X W O N f L
  have Fd := (W.1 k _ hk).2 j n d cd hfs
  obtain ⟨T', X', e', st'⟩ := getF X hc.1 hc.2.1 hc.2.2.2.1 (host := "") (Or.inl wl) Via.refl rfl Fd (g := mkF m pc rl.toArray (.ref (A k) :: St.map (cv A))) rfl rfl (hb hc.2.2.1 hd)
  obtain ⟨s₂, o, st, r⟩ := κ x hx T' locs rl X' (by rw [e']; exact W) (by rw [e']; exact O) N f L
  exact ⟨s₂, o, st' _ st, r⟩
theorem am_putf (hc : Cx p s m meth c Z own bytes maxL ret mn) (hF : FsOk Z a0 C fs) (wi : (Cond.instantiable C kk).before a0 Z = true) {k q j i cd : Nat} {n d : String} {v : Value} (hk : w k = some (.inl q)) (hfs : fs[j]? = some (n, d, cd)) (wl : (Cond.fieldLink own i C n d).before a0 Z = true) (hL : Lay1 Z a0 C own mn n d) (hd : decode bytes pc = .ok (.putfield i, 3))
    (hv : (cd = 0 ∧ (∃ x, v = .int x) ∨ cd = 1 ∧ ∃ x, v = .long x)) (hfv : fv σ' k j q cd = v) (hcv : cv A v = v) (hσ : ∀ k', k' ≠ k → ∀ i, gi σ' k' i = gi σ k' i ∧ gj σ' k' i = gj σ k' i) (hσ2 : ∀ j', j' ≠ j → gi σ' k j' = gi σ k j' ∧ gj σ' k j' = gj σ k j')
    (κ : OkR p l e R s m args below meth c Z C fs n0 h0 F A w cells slots (pc + 3) Ls St σ' t) : OkR p l e R s m args below meth c Z C fs n0 h0 F A w cells slots pc Ls (v :: .ref k :: St) σ t := by
  intro x hx T locs rl X W O N f L
  have hO := W.1 k _ hk
  have Fd := hO.2 j n d cd hfs
  obtain ⟨hlaid, ⟨ty, hty, t0, t1, -⟩, hinj⟩ := hF j n d cd hfs
  have hn : narrow ty v = v ∧ fits ty v = true := by
    rcases hv with ⟨e, y, rfl⟩ | ⟨e, y, rfl⟩
    · rw [t0 e]; exact ⟨rfl, rfl⟩
    · rw [t1 e]; exact ⟨rfl, rfl⟩
  have hL' : (Cond.lays C C n d).before a0 Z = true ∨ ((Cond.laysFinal C C n d).before a0 Z = true ∧ own = C ∧ meth.name = "<init>") := hL.imp id fun q => ⟨q.1, q.2.1, hc.2.2.2.2.2.2.2.trans q.2.2⟩
  obtain ⟨T', h', X', e', Q, st'⟩ := putF X hc.1 hc.2.1 hc.2.2.2.1 (host := "") (Or.inl wl) Via.refl rfl Fd hO.1 hL' wi hty hn.1 hn.2 (g := mkF m pc rl.toArray (v :: .ref (A k) :: St.map (cv A))) rfl rfl (hb hc.2.2.1 hd)
  subst e'
  have W' : Wd Z C fs T'.heap A w σ' := by
    refine W.write hk Q hσ ⟨hO.1.wr Q, fun j' n' d' cd' hj' => ?_⟩
    by_cases ej : j' = j
    · subst ej
      rw [hfs] at hj'; cases hj'
      rw [hfv, hcv]
      exact Fd.same Q
    · obtain ⟨hlaid', ⟨ty', hty', -⟩, -⟩ := hF j' n' d' cd' hj'
      have e1 : fv σ' k j' q cd' = fv σ k j' q cd' := by
        match cd' with
        | 0 => simp only [fv, (hσ2 j' ej).1]
        | 1 => simp only [fv, (hσ2 j' ej).2]
        | r + 2 => rfl
      rw [e1]
      exact (hO.2 j' n' d' cd' hj').other Q (Or.inr (slot_ne hlaid' hlaid (fun q => ej (hinj _ _ _ _ hj' q.symm).symm) hty' hty))
  obtain ⟨s₂, o, st, r⟩ := κ x hx T' _ rl X' W' (O.write hk rfl Q) N (Fr.snoc X' f (N k _ hk rfl)) L
  have e2 : List.map (cv A) (v :: .ref k :: St) = v :: .ref (A k) :: St.map (cv A) := by rw [List.map_cons, List.map_cons, hcv]; rfl
  exact ⟨s₂, o, by rw [e2]; exact st' _ st, r⟩

set_option maxHeartbeats 4000000 in
theorem ev1_ok (hc : Cx p s m meth c Z own bytes maxL ret mn) (hT : Tab Z a0 C own mn fs fl pfl kI kJ) (hF : FsOk Z a0 C fs) (wi : (Cond.instantiable C kk).before a0 Z = true) {i : Instr} (hd : decode bytes pc = .ok (i, ilen i)) (hj : jok pc i = true) (hev : ev1 w fs fl pfl kI kJ i Ls St σ = some (Ls', St', σ'))
    (k : OkR p l e R s m args below meth c Z C fs n0 h0 F A w cells slots (npc pc i) Ls' St' σ' t) : OkR p l e R s m args below meth c Z C fs n0 h0 F A w cells slots pc Ls St σ t := by
  cases i
  case iadd =>
    simp only [ev1] at hev
    split at hev
    · cases hev
      intro x' hx T locs rl X W O N f L
      obtain ⟨s₂, o, st, r'⟩ := k x' hx T locs rl X W O N f L
      exact ⟨s₂, o, XS.iadd X.here hc.1 rfl (hb hc.2.2.1 hd) rfl st, r'⟩
    · cases hev
  case isub =>
    simp only [ev1] at hev
    split at hev
    · cases hev
      intro x' hx T locs rl X W O N f L
      obtain ⟨s₂, o, st, r'⟩ := k x' hx T locs rl X W O N f L
      exact ⟨s₂, o, XS.isub X.here hc.1 rfl (hb hc.2.2.1 hd) rfl st, r'⟩
    · cases hev
  case imul =>
    simp only [ev1] at hev
    split at hev
    · cases hev
      intro x' hx T locs rl X W O N f L
      obtain ⟨s₂, o, st, r'⟩ := k x' hx T locs rl X W O N f L
      exact ⟨s₂, o, XS.imul X.here hc.1 rfl (hb hc.2.2.1 hd) rfl st, r'⟩
    · cases hev
  case iand =>
    simp only [ev1] at hev
    split at hev
    · cases hev
      intro x' hx T locs rl X W O N f L
      obtain ⟨s₂, o, st, r'⟩ := k x' hx T locs rl X W O N f L
      exact ⟨s₂, o, XS.iand X.here hc.1 rfl (hb hc.2.2.1 hd) rfl st, r'⟩
    · cases hev
  case ior =>
    simp only [ev1] at hev
    split at hev
    · cases hev
      intro x' hx T locs rl X W O N f L
      obtain ⟨s₂, o, st, r'⟩ := k x' hx T locs rl X W O N f L
      exact ⟨s₂, o, XT.ior X.here hc.1 rfl (hb hc.2.2.1 hd) rfl st, r'⟩
    · cases hev
  case ixor =>
    simp only [ev1] at hev
    split at hev
    · cases hev
      intro x' hx T locs rl X W O N f L
      obtain ⟨s₂, o, st, r'⟩ := k x' hx T locs rl X W O N f L
      exact ⟨s₂, o, XT.ixor X.here hc.1 rfl (hb hc.2.2.1 hd) rfl st, r'⟩
    · cases hev
  case ishl =>
    simp only [ev1] at hev
    split at hev
    · cases hev
      intro x' hx T locs rl X W O N f L
      obtain ⟨s₂, o, st, r'⟩ := k x' hx T locs rl X W O N f L
      exact ⟨s₂, o, XT.ishl X.here hc.1 rfl (hb hc.2.2.1 hd) rfl st, r'⟩
    · cases hev
  case ishr =>
    simp only [ev1] at hev
    split at hev
    · cases hev
      intro x' hx T locs rl X W O N f L
      obtain ⟨s₂, o, st, r'⟩ := k x' hx T locs rl X W O N f L
      exact ⟨s₂, o, XT.ishr X.here hc.1 rfl (hb hc.2.2.1 hd) rfl st, r'⟩
    · cases hev
  case iushr =>
    simp only [ev1] at hev
    split at hev
    · cases hev
      intro x' hx T locs rl X W O N f L
      obtain ⟨s₂, o, st, r'⟩ := k x' hx T locs rl X W O N f L
      exact ⟨s₂, o, XT.iushr X.here hc.1 rfl (hb hc.2.2.1 hd) rfl st, r'⟩
    · cases hev
  case ladd =>
    simp only [ev1] at hev
    split at hev
    · cases hev
      intro x' hx T locs rl X W O N f L
      obtain ⟨s₂, o, st, r'⟩ := k x' hx T locs rl X W O N f L
      exact ⟨s₂, o, XT.ladd X.here hc.1 rfl (hb hc.2.2.1 hd) rfl st, r'⟩
    · cases hev
  case lsub =>
    simp only [ev1] at hev
    split at hev
    · cases hev
      intro x' hx T locs rl X W O N f L
      obtain ⟨s₂, o, st, r'⟩ := k x' hx T locs rl X W O N f L
      exact ⟨s₂, o, XT.lsub X.here hc.1 rfl (hb hc.2.2.1 hd) rfl st, r'⟩
    · cases hev
  case lmul =>
    simp only [ev1] at hev
    split at hev
    · cases hev
      intro x' hx T locs rl X W O N f L
      obtain ⟨s₂, o, st, r'⟩ := k x' hx T locs rl X W O N f L
      exact ⟨s₂, o, XT.lmul X.here hc.1 rfl (hb hc.2.2.1 hd) rfl st, r'⟩
    · cases hev
  case land =>
    simp only [ev1] at hev
    split at hev
    · cases hev
      intro x' hx T locs rl X W O N f L
      obtain ⟨s₂, o, st, r'⟩ := k x' hx T locs rl X W O N f L
      exact ⟨s₂, o, XT.land X.here hc.1 rfl (hb hc.2.2.1 hd) rfl st, r'⟩
    · cases hev
  case lor =>
    simp only [ev1] at hev
    split at hev
    · cases hev
      intro x' hx T locs rl X W O N f L
      obtain ⟨s₂, o, st, r'⟩ := k x' hx T locs rl X W O N f L
      exact ⟨s₂, o, XT.lor X.here hc.1 rfl (hb hc.2.2.1 hd) rfl st, r'⟩
    · cases hev
  case lxor =>
    simp only [ev1] at hev
    split at hev
    · cases hev
      intro x' hx T locs rl X W O N f L
      obtain ⟨s₂, o, st, r'⟩ := k x' hx T locs rl X W O N f L
      exact ⟨s₂, o, XT.lxor X.here hc.1 rfl (hb hc.2.2.1 hd) rfl st, r'⟩
    · cases hev
  case lshl =>
    simp only [ev1] at hev
    split at hev
    · cases hev
      intro x' hx T locs rl X W O N f L
      obtain ⟨s₂, o, st, r'⟩ := k x' hx T locs rl X W O N f L
      exact ⟨s₂, o, XT.lshl X.here hc.1 rfl (hb hc.2.2.1 hd) rfl st, r'⟩
    · cases hev
  case lushr =>
    simp only [ev1] at hev
    split at hev
    · cases hev
      intro x' hx T locs rl X W O N f L
      obtain ⟨s₂, o, st, r'⟩ := k x' hx T locs rl X W O N f L
      exact ⟨s₂, o, XT.lushr X.here hc.1 rfl (hb hc.2.2.1 hd) rfl st, r'⟩
    · cases hev
  case lshr =>
    simp only [ev1] at hev
    split at hev
    · cases hev
      intro x' hx T locs rl X W O N f L
      obtain ⟨s₂, o, st, r'⟩ := k x' hx T locs rl X W O N f L
      exact ⟨s₂, o, XT.lshr X.here hc.1 rfl (hb hc.2.2.1 hd) rfl st, r'⟩
    · cases hev
  case lcmp =>
    simp only [ev1] at hev
    split at hev
    · cases hev
      intro x' hx T locs rl X W O N f L
      obtain ⟨s₂, o, st, r'⟩ := k x' hx T locs rl X W O N f L
      exact ⟨s₂, o, XT.lcmp X.here hc.1 rfl (hb hc.2.2.1 hd) rfl st, r'⟩
    · cases hev
  case ineg =>
    simp only [ev1] at hev
    split at hev
    · cases hev
      intro x' hx T locs rl X W O N f L
      obtain ⟨s₂, o, st, r'⟩ := k x' hx T locs rl X W O N f L
      exact ⟨s₂, o, XS.ineg X.here hc.1 rfl (hb hc.2.2.1 hd) rfl st, r'⟩
    · cases hev
  case lneg =>
    simp only [ev1] at hev
    split at hev
    · cases hev
      intro x' hx T locs rl X W O N f L
      obtain ⟨s₂, o, st, r'⟩ := k x' hx T locs rl X W O N f L
      exact ⟨s₂, o, XT.lneg X.here hc.1 rfl (hb hc.2.2.1 hd) rfl st, r'⟩
    · cases hev
  case i2l =>
    simp only [ev1] at hev
    split at hev
    · cases hev
      intro x' hx T locs rl X W O N f L
      obtain ⟨s₂, o, st, r'⟩ := k x' hx T locs rl X W O N f L
      exact ⟨s₂, o, XT.i2l X.here hc.1 rfl (hb hc.2.2.1 hd) rfl st, r'⟩
    · cases hev
  case l2i =>
    simp only [ev1] at hev
    split at hev
    · cases hev
      intro x' hx T locs rl X W O N f L
      obtain ⟨s₂, o, st, r'⟩ := k x' hx T locs rl X W O N f L
      exact ⟨s₂, o, XT.l2i X.here hc.1 rfl (hb hc.2.2.1 hd) rfl st, r'⟩
    · cases hev
  case i2b =>
    simp only [ev1] at hev
    split at hev
    · cases hev
      intro x' hx T locs rl X W O N f L
      obtain ⟨s₂, o, st, r'⟩ := k x' hx T locs rl X W O N f L
      exact ⟨s₂, o, XT.i2b X.here hc.1 rfl (hb hc.2.2.1 hd) rfl st, r'⟩
    · cases hev
  case iconst k =>
    simp only [ev1] at hev
    cases hev
    · rw [ic_eq] at k
      intro x' hx T locs rl X W O N f L
      obtain ⟨s₂, o, st, r'⟩ := k x' hx T locs rl X W O N f L
      exact ⟨s₂, o, XS.iconst X.here hc.1 rfl (hb hc.2.2.1 hd) st, r'⟩
  case bipush k =>
    simp only [ev1] at hev
    cases hev
    · intro x' hx T locs rl X W O N f L
      obtain ⟨s₂, o, st, r'⟩ := k x' hx T locs rl X W O N f L
      exact ⟨s₂, o, XS.bipush X.here hc.1 rfl (hb hc.2.2.1 hd) st, r'⟩
  case sipush k =>
    simp only [ev1] at hev
    cases hev
    · intro x' hx T locs rl X W O N f L
      obtain ⟨s₂, o, st, r'⟩ := k x' hx T locs rl X W O N f L
      exact ⟨s₂, o, x_sipush X.here hc.1 rfl (hb hc.2.2.1 hd) st, r'⟩
  case lconst k =>
    simp only [ev1] at hev
    cases hev
    · intro x' hx T locs rl X W O N f L
      obtain ⟨s₂, o, st, r'⟩ := k x' hx T locs rl X W O N f L
      exact ⟨s₂, o, XT.lconst X.here hc.1 rfl (hb hc.2.2.1 hd) st, r'⟩
  case ldc i =>
    simp only [ev1] at hev
    split at hev
    · cases hev
      rename_i v hv
      intro x' hx T locs rl X W O N f L
      obtain ⟨s₂, o, st, r'⟩ := k x' hx T locs rl X W O N f L
      exact ⟨s₂, o, X.ldcI hc.1 hc.2.2.2.1 (mv hc.2.1 (hT.2.2.1 _ (lkp_mem hv))) rfl (hb hc.2.2.1 hd) st, r'⟩
    · cases hev
  case ldc2_w i =>
    simp only [ev1] at hev
    split at hev
    · cases hev
      rename_i v hv
      intro x' hx T locs rl X W O N f L
      obtain ⟨s₂, o, st, r'⟩ := k x' hx T locs rl X W O N f L
      exact ⟨s₂, o, X.ldc2J hc.1 hc.2.2.2.1 (mv hc.2.1 (hT.2.2.2 _ (lkp_mem hv))) rfl (hb hc.2.2.1 hd) st, r'⟩
    · cases hev
  case iload_n n =>
    simp only [ev1] at hev
    split at hev
    · cases hev
      rename_i v hv
      intro x' hx T locs rl X W O N f L
      obtain ⟨s₂, o, st, r'⟩ := k x' hx T locs rl X W O N f L
      exact ⟨s₂, o, XS.iloadN X.here hc.1 rfl (hb hc.2.2.1 hd) (am_ld L hv) st, r'⟩
    · cases hev
  case iload n =>
    simp only [ev1] at hev
    split at hev
    · cases hev
      rename_i v hv
      intro x' hx T locs rl X W O N f L
      obtain ⟨s₂, o, st, r'⟩ := k x' hx T locs rl X W O N f L
      exact ⟨s₂, o, XS.iload X.here hc.1 rfl (hb hc.2.2.1 hd) (am_ld L hv) st, r'⟩
    · cases hev
  case lload_n n =>
    simp only [ev1] at hev
    split at hev
    · cases hev
      rename_i v hv
      intro x' hx T locs rl X W O N f L
      obtain ⟨s₂, o, st, r'⟩ := k x' hx T locs rl X W O N f L
      exact ⟨s₂, o, XT.lloadN X.here hc.1 rfl (hb hc.2.2.1 hd) (am_ld L hv) st, r'⟩
    · cases hev
  case lload n =>
    simp only [ev1] at hev
    split at hev
    · cases hev
      rename_i v hv
      intro x' hx T locs rl X W O N f L
      obtain ⟨s₂, o, st, r'⟩ := k x' hx T locs rl X W O N f L
      exact ⟨s₂, o, XT.lload X.here hc.1 rfl (hb hc.2.2.1 hd) (am_ld L hv) st, r'⟩
    · cases hev
  case aload_n n =>
    simp only [ev1] at hev
    split at hev
    · cases hev
      rename_i v hv
      intro x' hx T locs rl X W O N f L
      obtain ⟨s₂, o, st, r'⟩ := k x' hx T locs rl X W O N f L
      exact ⟨s₂, o, XS.aloadN X.here hc.1 rfl (hb hc.2.2.1 hd) (am_ld L hv) rfl st, r'⟩
    · cases hev
  case aload n =>
    simp only [ev1] at hev
    split at hev
    · cases hev
      rename_i v hv
      intro x' hx T locs rl X W O N f L
      obtain ⟨s₂, o, st, r'⟩ := k x' hx T locs rl X W O N f L
      exact ⟨s₂, o, XS.aload X.here hc.1 rfl (hb hc.2.2.1 hd) (am_ld L hv) rfl st, r'⟩
    · cases hev
  case istore_n n =>
    simp only [ev1] at hev
    split at hev
    · split at hev
      · cases hev
        rename_i v hk
        intro x' hx T locs rl X W O N f L
        obtain ⟨rl', hst, L'⟩ := am_st1 (v := .int v) L hk rfl
        obtain ⟨s₂, o, st, r'⟩ := k x' hx T locs rl' X W O N f L'
        exact ⟨s₂, o, XS.istoreN X.here hc.1 rfl (hb hc.2.2.1 hd) rfl hst st, r'⟩
      · cases hev
    · cases hev
  case istore n =>
    simp only [ev1] at hev
    split at hev
    · split at hev
      · cases hev
        rename_i v hk
        intro x' hx T locs rl X W O N f L
        obtain ⟨rl', hst, L'⟩ := am_st1 (v := .int v) L hk rfl
        obtain ⟨s₂, o, st, r'⟩ := k x' hx T locs rl' X W O N f L'
        exact ⟨s₂, o, XS.istore X.here hc.1 rfl (hb hc.2.2.1 hd) rfl hst st, r'⟩
      · cases hev
    · cases hev
  case astore_n n =>
    simp only [ev1] at hev
    split at hev
    · split at hev
      · cases hev
        rename_i v hk
        intro x' hx T locs rl X W O N f L
        obtain ⟨rl', hst, L'⟩ := am_st1 (v := .ref v) L hk rfl
        obtain ⟨s₂, o, st, r'⟩ := k x' hx T locs rl' X W O N f L'
        exact ⟨s₂, o, XS.astoreN X.here hc.1 rfl (hb hc.2.2.1 hd) rfl rfl hst st, r'⟩
      · cases hev
    · cases hev
  case astore n =>
    simp only [ev1] at hev
    split at hev
    · split at hev
      · cases hev
        rename_i v hk
        intro x' hx T locs rl X W O N f L
        obtain ⟨rl', hst, L'⟩ := am_st1 (v := .ref v) L hk rfl
        obtain ⟨s₂, o, st, r'⟩ := k x' hx T locs rl' X W O N f L'
        exact ⟨s₂, o, XS.astore X.here hc.1 rfl (hb hc.2.2.1 hd) rfl rfl hst st, r'⟩
      · cases hev
    · cases hev
  case lstore_n n =>
    simp only [ev1] at hev
    split at hev
    · split at hev
      · cases hev
        rename_i v hk
        intro x' hx T locs rl X W O N f L
        obtain ⟨rl', hst, L'⟩ := am_st2 (v := .long v) L hk rfl
        obtain ⟨s₂, o, st, r'⟩ := k x' hx T locs rl' X W O N f L'
        exact ⟨s₂, o, XT.lstoreN X.here hc.1 rfl (hb hc.2.2.1 hd) rfl hst st, r'⟩
      · cases hev
    · cases hev
  case lstore n =>
    simp only [ev1] at hev
    split at hev
    · split at hev
      · cases hev
        rename_i v hk
        intro x' hx T locs rl X W O N f L
        obtain ⟨rl', hst, L'⟩ := am_st2 (v := .long v) L hk rfl
        obtain ⟨s₂, o, st, r'⟩ := k x' hx T locs rl' X W O N f L'
        exact ⟨s₂, o, XT.lstore X.here hc.1 rfl (hb hc.2.2.1 hd) rfl hst st, r'⟩
      · cases hev
    · cases hev
  case iinc n cst =>
    simp only [ev1] at hev
    split at hev
    · split at hev
      · cases hev
        rename_i v hv hk
        intro x' hx T locs rl X W O N f L
        obtain ⟨rl', hst, L'⟩ := am_st1 (v := .int (v + ic cst)) L hk rfl
        obtain ⟨s₂, o, st, r'⟩ := k x' hx T locs rl' X W O N f L'
        exact ⟨s₂, o, XS.iinc X.here hc.1 rfl (hb hc.2.2.1 hd) (am_ld L hv) (by rw [← ic_eq]; exact hst) st, r'⟩
      · cases hev
    · cases hev
  case dup =>
    simp only [ev1] at hev
    split at hev
    · cases hev
      intro x' hx T locs rl X W O N f L
      obtain ⟨s₂, o, st, r'⟩ := k x' hx T locs rl X W O N f L
      exact ⟨s₂, o, XS.dup X.here hc.1 rfl (hb hc.2.2.1 hd) rfl rfl st, r'⟩
    · cases hev
      intro x' hx T locs rl X W O N f L
      obtain ⟨s₂, o, st, r'⟩ := k x' hx T locs rl X W O N f L
      exact ⟨s₂, o, XS.dup X.here hc.1 rfl (hb hc.2.2.1 hd) rfl rfl st, r'⟩
    · cases hev
  case pop =>
    simp only [ev1] at hev
    split at hev
    · cases hev
      intro x' hx T locs rl X W O N f L
      obtain ⟨s₂, o, st, r'⟩ := k x' hx T locs rl X W O N f L
      exact ⟨s₂, o, XT.pop X.here hc.1 rfl (hb hc.2.2.1 hd) rfl rfl st, r'⟩
    · cases hev
  case goto off =>
    simp only [ev1] at hev
    cases hev
    · intro x' hx T locs rl X W O N f L
      obtain ⟨s₂, o, st, r'⟩ := k x' hx T locs rl X W O N f L
      exact ⟨s₂, o, XS.goto X.here hc.1 rfl (pc0 := pc) rfl (hb hc.2.2.1 hd) (of_decide_eq_true hj) rfl st, r'⟩
  case getfield i =>
    simp only [ev1] at hev
    split at hev
    · split at hev
      · rename_i q hq
        split at hev
        · rename_i j hj'
          split at hev
          · rename_i n d cd hfs
            cases hev
            obtain ⟨n', d', cd', h1, h2⟩ := hT.1 _ (lkp_mem hj')
            rw [hfs] at h1; cases h1
            exact am_getf hc hq hfs h2 hd k
          · cases hev
        · cases hev
      · cases hev
    · cases hev
  case putfield i =>
    simp only [ev1] at hev
    split at hev
    · split at hev
      · rename_i q hq
        split at hev
        · rename_i j hj'
          split at hev
          · rename_i n d hfs
            cases hev
            obtain ⟨n', d', cd', h1, h2, h3⟩ := hT.2.1 _ (lkp_mem hj')
            rw [hfs] at h1; cases h1
            exact am_putf hc hF wi hq hfs h2 h3 hd (Or.inl ⟨rfl, _, rfl⟩) (by simp [fv, gi_si]) rfl (si_off _ _ _ _) (fun j' ne => ⟨by rw [gi_si, if_neg (fun z => ne z.2)], rfl⟩) k
          · cases hev
        · cases hev
      · cases hev
    · split at hev
      · rename_i q hq
        split at hev
        · rename_i j hj'
          split at hev
          · rename_i n d hfs
            cases hev
            obtain ⟨n', d', cd', h1, h2, h3⟩ := hT.2.1 _ (lkp_mem hj')
            rw [hfs] at h1; cases h1
            exact am_putf hc hF wi hq hfs h2 h3 hd (Or.inr ⟨rfl, _, rfl⟩) (by simp [fv, gj_sj]) rfl (sj_off _ _ _ _) (fun j' ne => ⟨rfl, by rw [gj_sj, if_neg (fun z => ne z.2)]⟩) k
          · cases hev
        · cases hev
      · cases hev
    · cases hev
  all_goals (simp [ev1] at hev)
def evB (w : Nat → Option CD) (fs : FS) (fl pfl : List (Nat × Nat)) (kI : List (Nat × Int32)) (kJ : List (Nat × Int64)) : List Instr → List Slot → List Value → Sg → Option (List Slot × List Value × Sg)
  | [], Ls, St, σ => some (Ls, St, σ)
  | i :: is, Ls, St, σ => match ev1 w fs fl pfl kI kJ i Ls St σ with
    | some (Ls', St', σ') => evB w fs fl pfl kI kJ is Ls' St' σ'
    | none => none
def decB (code : ByteArray) : Nat → List Instr → Nat → Bool
  | pc, [], pc' => pc == pc'
  | pc, i :: is, pc' => decide (decode code pc = .ok (i, ilen i)) && jok pc i && decB code (npc pc i) is pc'
theorem am_blk {pc' : Nat} (is : List Instr) (hd : decB bytes pc is pc' = true) (hc : Cx p s m meth c Z own bytes maxL ret mn) (hT : Tab Z a0 C own mn fs fl pfl kI kJ) (hF : FsOk Z a0 C fs) (wi : (Cond.instantiable C kk).before a0 Z = true) (hev : evB w fs fl pfl kI kJ is Ls St σ = some (Ls', St', σ'))
    (k : OkR p l e R s m args below meth c Z C fs n0 h0 F A w cells slots pc' Ls' St' σ' t) : OkR p l e R s m args below meth c Z C fs n0 h0 F A w cells slots pc Ls St σ t := by
  induction is generalizing pc Ls St σ with
  | nil =>
    unfold evB at hev; cases hev
    unfold decB at hd
    have := eq_of_beq hd; subst this
    exact k
  | cons i is ih =>
    unfold evB at hev
    unfold decB at hd
    simp only [Bool.and_eq_true] at hd
    split at hev
    · rename_i L1 S1 σ1 h1
      exact ev1_ok hc hT hF wi (of_decide_eq_true hd.1.1) hd.1.2 h1 (ih hd.2 hev)
    · cases hev

def brk (code : ByteArray) (pc : Nat) (i : Instr) (o : Int) (pc1 : Nat) : Bool := decide (decode code pc = .ok (i, 3)) && decide (0 ≤ (pc : Int) + o) && decide (((pc : Int) + o).toNat = pc1)
theorem brk_spec {code : ByteArray} {pc : Nat} {i : Instr} {o : Int} {pc1 : Nat} (h : brk code pc i o pc1 = true) : decode code pc = .ok (i, 3) ∧ 0 ≤ (pc : Int) + o ∧ ((pc : Int) + o).toNat = pc1 := by
  simp only [brk, Bool.and_eq_true, decide_eq_true_eq] at h; exact ⟨h.1.1, h.1.2, h.2⟩
theorem am_icmpT {cd : ClassFile.Cond} {o : Int} {x y : Int32} {P : Prop} [Decidable P] {pc1 : Nat} {t1 t2 : Option α} (hY : P → if_icmp.holds cd x y = true) (hN : ¬ P → if_icmp.holds cd x y = false) (hd : brk bytes pc (.if_icmp cd o) o pc1 = true) (hc : Cx p s m meth c Z own bytes maxL ret mn)
    (k1 : P → OkR p l e R s m args below meth c Z C fs n0 h0 F A w cells slots pc1 Ls St σ t1) (k2 : ¬ P → OkR p l e R s m args below meth c Z C fs n0 h0 F A w cells slots (pc + 3) Ls St σ t2) : OkR p l e R s m args below meth c Z C fs n0 h0 F A w cells slots pc Ls (.int y :: .int x :: St) σ (if P then t1 else t2) := by
  obtain ⟨d1, d2, d3⟩ := brk_spec hd
  by_cases q : P
  · rw [if_pos q]
    intro x' hx T locs rl X W O N f L
    obtain ⟨s₂, o', st, r⟩ := k1 q x' hx T locs rl X W O N f L
    exact ⟨s₂, o', XS.icmpYes X.here hc.1 rfl (pc0 := pc) rfl (hb hc.2.2.1 d1) rfl (hY q) d2 d3 st, r⟩
  · rw [if_neg q]
    intro x' hx T locs rl X W O N f L
    obtain ⟨s₂, o', st, r⟩ := k2 q x' hx T locs rl X W O N f L
    exact ⟨s₂, o', XS.icmpNo X.here hc.1 rfl (hb hc.2.2.1 d1) rfl (hN q) st, r⟩
theorem am_icmpF {cd : ClassFile.Cond} {o : Int} {x y : Int32} {P : Prop} [Decidable P] {pc1 : Nat} {t1 t2 : Option α} (hY : ¬ P → if_icmp.holds cd x y = true) (hN : P → if_icmp.holds cd x y = false) (hd : brk bytes pc (.if_icmp cd o) o pc1 = true) (hc : Cx p s m meth c Z own bytes maxL ret mn)
    (k1 : P → OkR p l e R s m args below meth c Z C fs n0 h0 F A w cells slots (pc + 3) Ls St σ t1) (k2 : ¬ P → OkR p l e R s m args below meth c Z C fs n0 h0 F A w cells slots pc1 Ls St σ t2) : OkR p l e R s m args below meth c Z C fs n0 h0 F A w cells slots pc Ls (.int y :: .int x :: St) σ (if P then t1 else t2) := by
  obtain ⟨d1, d2, d3⟩ := brk_spec hd
  by_cases q : P
  · rw [if_pos q]
    intro x' hx T locs rl X W O N f L
    obtain ⟨s₂, o', st, r⟩ := k1 q x' hx T locs rl X W O N f L
    exact ⟨s₂, o', XS.icmpNo X.here hc.1 rfl (hb hc.2.2.1 d1) rfl (hN q) st, r⟩
  · rw [if_neg q]
    intro x' hx T locs rl X W O N f L
    obtain ⟨s₂, o', st, r⟩ := k2 q x' hx T locs rl X W O N f L
    exact ⟨s₂, o', XS.icmpYes X.here hc.1 rfl (pc0 := pc) rfl (hb hc.2.2.1 d1) rfl (hY q) d2 d3 st, r⟩
theorem am_ifT {cd : ClassFile.Cond} {o : Int} {x : Int32} {P : Prop} [Decidable P] {pc1 : Nat} {t1 t2 : Option α} (hY : P → ifCond.holds cd x = true) (hN : ¬ P → ifCond.holds cd x = false) (hd : brk bytes pc (.ifCond cd o) o pc1 = true) (hc : Cx p s m meth c Z own bytes maxL ret mn)
    (k1 : P → OkR p l e R s m args below meth c Z C fs n0 h0 F A w cells slots pc1 Ls St σ t1) (k2 : ¬ P → OkR p l e R s m args below meth c Z C fs n0 h0 F A w cells slots (pc + 3) Ls St σ t2) : OkR p l e R s m args below meth c Z C fs n0 h0 F A w cells slots pc Ls (.int x :: St) σ (if P then t1 else t2) := by
  obtain ⟨d1, d2, d3⟩ := brk_spec hd
  by_cases q : P
  · rw [if_pos q]
    intro x' hx T locs rl X W O N f L
    obtain ⟨s₂, o', st, r⟩ := k1 q x' hx T locs rl X W O N f L
    exact ⟨s₂, o', XS.ifYes X.here hc.1 rfl (pc0 := pc) rfl (hb hc.2.2.1 d1) rfl (hY q) d2 d3 st, r⟩
  · rw [if_neg q]
    intro x' hx T locs rl X W O N f L
    obtain ⟨s₂, o', st, r⟩ := k2 q x' hx T locs rl X W O N f L
    exact ⟨s₂, o', XS.ifNo X.here hc.1 rfl (hb hc.2.2.1 d1) rfl (hN q) st, r⟩
theorem am_ifF {cd : ClassFile.Cond} {o : Int} {x : Int32} {P : Prop} [Decidable P] {pc1 : Nat} {t1 t2 : Option α} (hY : ¬ P → ifCond.holds cd x = true) (hN : P → ifCond.holds cd x = false) (hd : brk bytes pc (.ifCond cd o) o pc1 = true) (hc : Cx p s m meth c Z own bytes maxL ret mn)
    (k1 : P → OkR p l e R s m args below meth c Z C fs n0 h0 F A w cells slots (pc + 3) Ls St σ t1) (k2 : ¬ P → OkR p l e R s m args below meth c Z C fs n0 h0 F A w cells slots pc1 Ls St σ t2) : OkR p l e R s m args below meth c Z C fs n0 h0 F A w cells slots pc Ls (.int x :: St) σ (if P then t1 else t2) := by
  obtain ⟨d1, d2, d3⟩ := brk_spec hd
  by_cases q : P
  · rw [if_pos q]
    intro x' hx T locs rl X W O N f L
    obtain ⟨s₂, o', st, r⟩ := k1 q x' hx T locs rl X W O N f L
    exact ⟨s₂, o', XS.ifNo X.here hc.1 rfl (hb hc.2.2.1 d1) rfl (hN q) st, r⟩
  · rw [if_neg q]
    intro x' hx T locs rl X W O N f L
    obtain ⟨s₂, o', st, r⟩ := k2 q x' hx T locs rl X W O N f L
    exact ⟨s₂, o', XS.ifYes X.here hc.1 rfl (pc0 := pc) rfl (hb hc.2.2.1 d1) rfl (hY q) d2 d3 st, r⟩
theorem am_icmp_lt {o : Int} {x y : Int32} {pc1 : Nat} {t1 t2 : Option α} (hd : brk bytes pc (.if_icmp .lt o) o pc1 = true) (hc : Cx p s m meth c Z own bytes maxL ret mn)
    (k1 : x < y → OkR p l e R s m args below meth c Z C fs n0 h0 F A w cells slots pc1 Ls St σ t1) (k2 : ¬ x < y → OkR p l e R s m args below meth c Z C fs n0 h0 F A w cells slots (pc + 3) Ls St σ t2) : OkR p l e R s m args below meth c Z C fs n0 h0 F A w cells slots pc Ls (.int y :: .int x :: St) σ (if x < y then t1 else t2) :=
  am_icmpT (fun h => (tlt h).1) (fun h => (flt h).1) hd hc k1 k2
theorem am_if_lt {o : Int} {x : Int32} {pc1 : Nat} {t1 t2 : Option α} (hd : brk bytes pc (.ifCond .lt o) o pc1 = true) (hc : Cx p s m meth c Z own bytes maxL ret mn)
    (k1 : x < 0 → OkR p l e R s m args below meth c Z C fs n0 h0 F A w cells slots pc1 Ls St σ t1) (k2 : ¬ x < 0 → OkR p l e R s m args below meth c Z C fs n0 h0 F A w cells slots (pc + 3) Ls St σ t2) : OkR p l e R s m args below meth c Z C fs n0 h0 F A w cells slots pc Ls (.int x :: St) σ (if x < 0 then t1 else t2) :=
  am_ifT (fun h => (if0 _ _).trans (tlt h).1) (fun h => (if0 _ _).trans (flt h).1) hd hc k1 k2
theorem am_icmp_ge {o : Int} {x y : Int32} {pc1 : Nat} {t1 t2 : Option α} (hd : brk bytes pc (.if_icmp .ge o) o pc1 = true) (hc : Cx p s m meth c Z own bytes maxL ret mn)
    (k1 : x < y → OkR p l e R s m args below meth c Z C fs n0 h0 F A w cells slots (pc + 3) Ls St σ t1) (k2 : ¬ x < y → OkR p l e R s m args below meth c Z C fs n0 h0 F A w cells slots pc1 Ls St σ t2) : OkR p l e R s m args below meth c Z C fs n0 h0 F A w cells slots pc Ls (.int y :: .int x :: St) σ (if x < y then t1 else t2) :=
  am_icmpF (fun h => (flt h).2.1) (fun h => (tlt h).2.1) hd hc k1 k2
theorem am_if_ge {o : Int} {x : Int32} {pc1 : Nat} {t1 t2 : Option α} (hd : brk bytes pc (.ifCond .ge o) o pc1 = true) (hc : Cx p s m meth c Z own bytes maxL ret mn)
    (k1 : x < 0 → OkR p l e R s m args below meth c Z C fs n0 h0 F A w cells slots (pc + 3) Ls St σ t1) (k2 : ¬ x < 0 → OkR p l e R s m args below meth c Z C fs n0 h0 F A w cells slots pc1 Ls St σ t2) : OkR p l e R s m args below meth c Z C fs n0 h0 F A w cells slots pc Ls (.int x :: St) σ (if x < 0 then t1 else t2) :=
  am_ifF (fun h => (if0 _ _).trans (flt h).2.1) (fun h => (if0 _ _).trans (tlt h).2.1) hd hc k1 k2
theorem am_icmp_gt {o : Int} {x y : Int32} {pc1 : Nat} {t1 t2 : Option α} (hd : brk bytes pc (.if_icmp .gt o) o pc1 = true) (hc : Cx p s m meth c Z own bytes maxL ret mn)
    (k1 : y < x → OkR p l e R s m args below meth c Z C fs n0 h0 F A w cells slots pc1 Ls St σ t1) (k2 : ¬ y < x → OkR p l e R s m args below meth c Z C fs n0 h0 F A w cells slots (pc + 3) Ls St σ t2) : OkR p l e R s m args below meth c Z C fs n0 h0 F A w cells slots pc Ls (.int y :: .int x :: St) σ (if y < x then t1 else t2) :=
  am_icmpT (fun h => (tlt h).2.2.1) (fun h => (flt h).2.2.1) hd hc k1 k2
theorem am_if_gt {o : Int} {x : Int32} {pc1 : Nat} {t1 t2 : Option α} (hd : brk bytes pc (.ifCond .gt o) o pc1 = true) (hc : Cx p s m meth c Z own bytes maxL ret mn)
    (k1 : 0 < x → OkR p l e R s m args below meth c Z C fs n0 h0 F A w cells slots pc1 Ls St σ t1) (k2 : ¬ 0 < x → OkR p l e R s m args below meth c Z C fs n0 h0 F A w cells slots (pc + 3) Ls St σ t2) : OkR p l e R s m args below meth c Z C fs n0 h0 F A w cells slots pc Ls (.int x :: St) σ (if 0 < x then t1 else t2) :=
  am_ifT (fun h => (if0 _ _).trans (tlt h).2.2.1) (fun h => (if0 _ _).trans (flt h).2.2.1) hd hc k1 k2
theorem am_icmp_le {o : Int} {x y : Int32} {pc1 : Nat} {t1 t2 : Option α} (hd : brk bytes pc (.if_icmp .le o) o pc1 = true) (hc : Cx p s m meth c Z own bytes maxL ret mn)
    (k1 : y < x → OkR p l e R s m args below meth c Z C fs n0 h0 F A w cells slots (pc + 3) Ls St σ t1) (k2 : ¬ y < x → OkR p l e R s m args below meth c Z C fs n0 h0 F A w cells slots pc1 Ls St σ t2) : OkR p l e R s m args below meth c Z C fs n0 h0 F A w cells slots pc Ls (.int y :: .int x :: St) σ (if y < x then t1 else t2) :=
  am_icmpF (fun h => (flt h).2.2.2) (fun h => (tlt h).2.2.2) hd hc k1 k2
theorem am_if_le {o : Int} {x : Int32} {pc1 : Nat} {t1 t2 : Option α} (hd : brk bytes pc (.ifCond .le o) o pc1 = true) (hc : Cx p s m meth c Z own bytes maxL ret mn)
    (k1 : 0 < x → OkR p l e R s m args below meth c Z C fs n0 h0 F A w cells slots (pc + 3) Ls St σ t1) (k2 : ¬ 0 < x → OkR p l e R s m args below meth c Z C fs n0 h0 F A w cells slots pc1 Ls St σ t2) : OkR p l e R s m args below meth c Z C fs n0 h0 F A w cells slots pc Ls (.int x :: St) σ (if 0 < x then t1 else t2) :=
  am_ifF (fun h => (if0 _ _).trans (flt h).2.2.2) (fun h => (if0 _ _).trans (tlt h).2.2.2) hd hc k1 k2
theorem am_icmp_eq {o : Int} {x y : Int32} {pc1 : Nat} {t1 t2 : Option α} (hd : brk bytes pc (.if_icmp .eq o) o pc1 = true) (hc : Cx p s m meth c Z own bytes maxL ret mn)
    (k1 : x = y → OkR p l e R s m args below meth c Z C fs n0 h0 F A w cells slots pc1 Ls St σ t1) (k2 : ¬ x = y → OkR p l e R s m args below meth c Z C fs n0 h0 F A w cells slots (pc + 3) Ls St σ t2) : OkR p l e R s m args below meth c Z C fs n0 h0 F A w cells slots pc Ls (.int y :: .int x :: St) σ (if x = y then t1 else t2) :=
  am_icmpT (fun h => (teq h).1) (fun h => (feq h).1) hd hc k1 k2
theorem am_if_eq {o : Int} {x : Int32} {pc1 : Nat} {t1 t2 : Option α} (hd : brk bytes pc (.ifCond .eq o) o pc1 = true) (hc : Cx p s m meth c Z own bytes maxL ret mn)
    (k1 : x = 0 → OkR p l e R s m args below meth c Z C fs n0 h0 F A w cells slots pc1 Ls St σ t1) (k2 : ¬ x = 0 → OkR p l e R s m args below meth c Z C fs n0 h0 F A w cells slots (pc + 3) Ls St σ t2) : OkR p l e R s m args below meth c Z C fs n0 h0 F A w cells slots pc Ls (.int x :: St) σ (if x = 0 then t1 else t2) :=
  am_ifT (fun h => (if0 _ _).trans (teq h).1) (fun h => (if0 _ _).trans (feq h).1) hd hc k1 k2
theorem am_icmp_ne {o : Int} {x y : Int32} {pc1 : Nat} {t1 t2 : Option α} (hd : brk bytes pc (.if_icmp .ne o) o pc1 = true) (hc : Cx p s m meth c Z own bytes maxL ret mn)
    (k1 : x = y → OkR p l e R s m args below meth c Z C fs n0 h0 F A w cells slots (pc + 3) Ls St σ t1) (k2 : ¬ x = y → OkR p l e R s m args below meth c Z C fs n0 h0 F A w cells slots pc1 Ls St σ t2) : OkR p l e R s m args below meth c Z C fs n0 h0 F A w cells slots pc Ls (.int y :: .int x :: St) σ (if x = y then t1 else t2) :=
  am_icmpF (fun h => (feq h).2) (fun h => (teq h).2) hd hc k1 k2
theorem am_if_ne {o : Int} {x : Int32} {pc1 : Nat} {t1 t2 : Option α} (hd : brk bytes pc (.ifCond .ne o) o pc1 = true) (hc : Cx p s m meth c Z own bytes maxL ret mn)
    (k1 : x = 0 → OkR p l e R s m args below meth c Z C fs n0 h0 F A w cells slots (pc + 3) Ls St σ t1) (k2 : ¬ x = 0 → OkR p l e R s m args below meth c Z C fs n0 h0 F A w cells slots pc1 Ls St σ t2) : OkR p l e R s m args below meth c Z C fs n0 h0 F A w cells slots pc Ls (.int x :: St) σ (if x = 0 then t1 else t2) :=
  am_ifF (fun h => (if0 _ _).trans (feq h).2) (fun h => (if0 _ _).trans (teq h).2) hd hc k1 k2

def inb (i : Int32) (n : Nat) : Bool := decide (0 ≤ i.toInt ∧ i.toInt < (n : Int))
theorem inb_iff {i : Int32} {n : Nat} : inb i n = true ↔ 0 ≤ i.toInt ∧ i.toInt < (n : Int) := by simp [inb]
theorem inb_of' {i : Int32} {n : Nat} (h : inb i n = true) : nx i < n ∧ i.toNatClampNeg = nx i ∧ ∀ c : Cell, c.slots.size = n → ¬ (i < 0 ∨ c.slots.size ≤ i.toNatClampNeg) := by
  obtain ⟨h1, h2⟩ := inb_iff.mp h
  have e : i.toNatClampNeg = nx i := rfl
  refine ⟨by unfold nx; omega, e, fun c hc => ?_⟩
  rw [hc, e]
  intro q
  rcases q with q | q
  · rw [Int32.lt_iff_toInt_lt] at q
    have : (0 : Int32).toInt = 0 := rfl
    omega
  · unfold nx at q; omega
theorem am_iaload {k n : Nat} {i : Int32} (hd : decode bytes pc = .ok (.iaload, 1)) (hc : Cx p s m meth c Z own bytes maxL ret mn) (hk : w k = some (.inr (.int, n, none)))
    (κ : inb i n = true → OkR p l e R s m args below meth c Z C fs n0 h0 F A w cells slots (pc + 1) Ls (.int (gi σ k (nx i)) :: St) σ t) : OkR p l e R s m args below meth c Z C fs n0 h0 F A w cells slots pc Ls (.int i :: .ref k :: St) σ (if inb i n = true then t else none) := by
  by_cases q : inb i n = true
  · rw [if_pos q]
    intro x hx T locs rl X W O N f L
    obtain ⟨q1, q2, q3⟩ := inb_of' q
    obtain ⟨cl, a1, a2, a3⟩ := W.1 k _ hk
    have hv : cl.slots[i.toNatClampNeg]? = some (.int (gi σ k (nx i))) := by rw [q2]; exact a3 _ q1
    obtain ⟨s₂, o', st, r⟩ := κ q x hx T locs rl X W O N f L
    exact ⟨s₂, o', X.iaload hc.1 a1.1 (State.isArrayOf_alike hc.2.1.alike a1.2.1) a1.2.2 (q3 cl a2) hv (g := mkF m pc rl.toArray (.int i :: .ref (A k) :: St.map (cv A))) rfl rfl (hb hc.2.2.1 hd) _ st, r⟩
  · rw [if_neg q]; exact am_none rfl
theorem am_iaload_k {k n : Nat} {i : Int32} (q : inb i n = true) (hd : decode bytes pc = .ok (.iaload, 1)) (hc : Cx p s m meth c Z own bytes maxL ret mn) (hk : w k = some (.inr (.int, n, none)))
    (κ : OkR p l e R s m args below meth c Z C fs n0 h0 F A w cells slots (pc + 1) Ls (.int (gi σ k (nx i)) :: St) σ t) : OkR p l e R s m args below meth c Z C fs n0 h0 F A w cells slots pc Ls (.int i :: .ref k :: St) σ t := by
  have := am_iaload hd hc hk fun _ => κ
  rw [if_pos q] at this; exact this
theorem am_ialoadC {k n : Nat} {i : Int32} {f0 : Nat → Int32} (hd : decode bytes pc = .ok (.iaload, 1)) (hc : Cx p s m meth c Z own bytes maxL ret mn) (hk : w k = some (.inr (.int, n, some f0)))
    (κ : inb i n = true → OkR p l e R s m args below meth c Z C fs n0 h0 F A w cells slots (pc + 1) Ls (.int (f0 (nx i)) :: St) σ t) : OkR p l e R s m args below meth c Z C fs n0 h0 F A w cells slots pc Ls (.int i :: .ref k :: St) σ (if inb i n = true then t else none) := by
  by_cases q : inb i n = true
  · rw [if_pos q]
    intro x hx T locs rl X W O N f L
    obtain ⟨q1, q2, q3⟩ := inb_of' q
    obtain ⟨cl, a1, a2, a3⟩ := W.1 k _ hk
    have hv : cl.slots[i.toNatClampNeg]? = some (.int (f0 (nx i))) := by rw [q2]; exact a3 _ q1
    obtain ⟨s₂, o', st, r⟩ := κ q x hx T locs rl X W O N f L
    exact ⟨s₂, o', X.iaload hc.1 a1.1 (State.isArrayOf_alike hc.2.1.alike a1.2.1) a1.2.2 (q3 cl a2) hv (g := mkF m pc rl.toArray (.int i :: .ref (A k) :: St.map (cv A))) rfl rfl (hb hc.2.2.1 hd) _ st, r⟩
  · rw [if_neg q]; exact am_none rfl
theorem am_ialoadC_k {k n : Nat} {i : Int32} {f0 : Nat → Int32} (q : inb i n = true) (hd : decode bytes pc = .ok (.iaload, 1)) (hc : Cx p s m meth c Z own bytes maxL ret mn) (hk : w k = some (.inr (.int, n, some f0)))
    (κ : OkR p l e R s m args below meth c Z C fs n0 h0 F A w cells slots (pc + 1) Ls (.int (f0 (nx i)) :: St) σ t) : OkR p l e R s m args below meth c Z C fs n0 h0 F A w cells slots pc Ls (.int i :: .ref k :: St) σ t := by
  have := am_ialoadC hd hc hk fun _ => κ
  rw [if_pos q] at this; exact this
theorem am_laload {k n : Nat} {i : Int32} (hd : decode bytes pc = .ok (.laload, 1)) (hc : Cx p s m meth c Z own bytes maxL ret mn) (hk : w k = some (.inr (.long, n, none)))
    (κ : inb i n = true → OkR p l e R s m args below meth c Z C fs n0 h0 F A w cells slots (pc + 1) Ls (.long (gj σ k (nx i)) :: St) σ t) : OkR p l e R s m args below meth c Z C fs n0 h0 F A w cells slots pc Ls (.int i :: .ref k :: St) σ (if inb i n = true then t else none) := by
  by_cases q : inb i n = true
  · rw [if_pos q]
    intro x hx T locs rl X W O N f L
    obtain ⟨q1, q2, q3⟩ := inb_of' q
    obtain ⟨cl, a1, a2, a3⟩ := W.1 k _ hk
    have hv : cl.slots[i.toNatClampNeg]? = some (.long (gj σ k (nx i))) := by rw [q2]; exact a3 _ q1
    obtain ⟨s₂, o', st, r⟩ := κ q x hx T locs rl X W O N f L
    exact ⟨s₂, o', X.laload hc.1 a1.1 (State.isArrayOf_alike hc.2.1.alike a1.2.1) a1.2.2 (q3 cl a2) hv (g := mkF m pc rl.toArray (.int i :: .ref (A k) :: St.map (cv A))) rfl rfl (hb hc.2.2.1 hd) _ st, r⟩
  · rw [if_neg q]; exact am_none rfl
theorem am_laload_k {k n : Nat} {i : Int32} (q : inb i n = true) (hd : decode bytes pc = .ok (.laload, 1)) (hc : Cx p s m meth c Z own bytes maxL ret mn) (hk : w k = some (.inr (.long, n, none)))
    (κ : OkR p l e R s m args below meth c Z C fs n0 h0 F A w cells slots (pc + 1) Ls (.long (gj σ k (nx i)) :: St) σ t) : OkR p l e R s m args below meth c Z C fs n0 h0 F A w cells slots pc Ls (.int i :: .ref k :: St) σ t := by
  have := am_laload hd hc hk fun _ => κ
  rw [if_pos q] at this; exact this
theorem am_baloadB {k n : Nat} {i : Int32} (hd : decode bytes pc = .ok (.baload, 1)) (hc : Cx p s m meth c Z own bytes maxL ret mn) (hk : w k = some (.inr (.byte, n, none)))
    (κ : inb i n = true → OkR p l e R s m args below meth c Z C fs n0 h0 F A w cells slots (pc + 1) Ls (.int (gi σ k (nx i)) :: St) σ t) : OkR p l e R s m args below meth c Z C fs n0 h0 F A w cells slots pc Ls (.int i :: .ref k :: St) σ (if inb i n = true then t else none) := by
  by_cases q : inb i n = true
  · rw [if_pos q]
    intro x hx T locs rl X W O N f L
    obtain ⟨q1, q2, q3⟩ := inb_of' q
    obtain ⟨cl, a1, a2, a3⟩ := W.1 k _ hk
    have hv : cl.slots[i.toNatClampNeg]? = some (.int (gi σ k (nx i))) := by rw [q2]; exact a3 _ q1
    obtain ⟨s₂, o', st, r⟩ := κ q x hx T locs rl X W O N f L
    exact ⟨s₂, o', X.baloadBytes hc.1 a1.1 (State.isArrayOf_alike hc.2.1.alike a1.2.1) a1.2.2 (q3 cl a2) hv (g := mkF m pc rl.toArray (.int i :: .ref (A k) :: St.map (cv A))) rfl rfl (hb hc.2.2.1 hd) _ st, r⟩
  · rw [if_neg q]; exact am_none rfl
theorem am_baloadB_k {k n : Nat} {i : Int32} (q : inb i n = true) (hd : decode bytes pc = .ok (.baload, 1)) (hc : Cx p s m meth c Z own bytes maxL ret mn) (hk : w k = some (.inr (.byte, n, none)))
    (κ : OkR p l e R s m args below meth c Z C fs n0 h0 F A w cells slots (pc + 1) Ls (.int (gi σ k (nx i)) :: St) σ t) : OkR p l e R s m args below meth c Z C fs n0 h0 F A w cells slots pc Ls (.int i :: .ref k :: St) σ t := by
  have := am_baloadB hd hc hk fun _ => κ
  rw [if_pos q] at this; exact this
theorem am_baloadZ {k n : Nat} {i : Int32} (hd : decode bytes pc = .ok (.baload, 1)) (hc : Cx p s m meth c Z own bytes maxL ret mn) (hk : w k = some (.inr (.boolean, n, none)))
    (κ : inb i n = true → OkR p l e R s m args below meth c Z C fs n0 h0 F A w cells slots (pc + 1) Ls (.int (gi σ k (nx i)) :: St) σ t) : OkR p l e R s m args below meth c Z C fs n0 h0 F A w cells slots pc Ls (.int i :: .ref k :: St) σ (if inb i n = true then t else none) := by
  by_cases q : inb i n = true
  · rw [if_pos q]
    intro x hx T locs rl X W O N f L
    obtain ⟨q1, q2, q3⟩ := inb_of' q
    obtain ⟨cl, a1, a2, a3⟩ := W.1 k _ hk
    have hv : cl.slots[i.toNatClampNeg]? = some (.int (gi σ k (nx i))) := by rw [q2]; exact a3 _ q1
    obtain ⟨s₂, o', st, r⟩ := κ q x hx T locs rl X W O N f L
    exact ⟨s₂, o', X.baloadBooleans hc.1 a1.1 (State.isArrayOf_alike hc.2.1.alike a1.2.1) a1.2.2 (q3 cl a2) hv (g := mkF m pc rl.toArray (.int i :: .ref (A k) :: St.map (cv A))) rfl rfl (hb hc.2.2.1 hd) _ st, r⟩
  · rw [if_neg q]; exact am_none rfl
theorem am_baloadZ_k {k n : Nat} {i : Int32} (q : inb i n = true) (hd : decode bytes pc = .ok (.baload, 1)) (hc : Cx p s m meth c Z own bytes maxL ret mn) (hk : w k = some (.inr (.boolean, n, none)))
    (κ : OkR p l e R s m args below meth c Z C fs n0 h0 F A w cells slots (pc + 1) Ls (.int (gi σ k (nx i)) :: St) σ t) : OkR p l e R s m args below meth c Z C fs n0 h0 F A w cells slots pc Ls (.int i :: .ref k :: St) σ t := by
  have := am_baloadZ hd hc hk fun _ => κ
  rw [if_pos q] at this; exact this
theorem am_iastore {k n : Nat} {i : Int32} {x y : Int32} (hy : x = y) (hd : decode bytes pc = .ok (.iastore, 1)) (hc : Cx p s m meth c Z own bytes maxL ret mn) (hk : w k = some (.inr (.int, n, none)))
    (κ : inb i n = true → OkR p l e R s m args below meth c Z C fs n0 h0 F A w cells slots (pc + 1) Ls St (si σ k (nx i) y) t) : OkR p l e R s m args below meth c Z C fs n0 h0 F A w cells slots pc Ls (.int x :: .int i :: .ref k :: St) σ (if inb i n = true then t else none) := by
  by_cases q : inb i n = true
  · rw [if_pos q]
    intro x' hx T locs rl X W O N f L
    obtain ⟨q1, q2, q3⟩ := inb_of' q
    obtain ⟨cl, a1, a2, a3⟩ := W.1 k _ hk
    obtain ⟨T', h', X', e', Q, st'⟩ := stI X hc.1 hc.2.1 rfl a1 (q3 cl a2) (g := mkF m pc rl.toArray (.int x :: .int i :: .ref (A k) :: St.map (cv A))) rfl rfl (hb hc.2.2.1 hd)
    subst e'
    have W' : Wd Z C fs T'.heap A w (si σ k (nx i) y) := by
      refine W.write hk Q (si_off _ _ _ _) ⟨_, a1.same Q, by rw [sz_set]; exact a2, fun j hj => ?_⟩
      subst hy
      simp only [Cell.setSlot, aeo, ae]
      rw [q2]
      by_cases ej : j = nx i
      · subst ej
        rw [Array.getElem?_setIfInBounds_self_of_lt (by omega)]
        simp [gi_si, gj_sj, nar]
      · rw [Array.getElem?_setIfInBounds_ne (Ne.symm ej)]
        rw [a3 j hj]
        simp [aeo, ae, gi_si, gj_sj, ej]
    obtain ⟨s₂, o', st, r⟩ := κ q x' hx T' _ rl X' W' (O.write hk rfl Q) N (Fr.snoc X' f (N k _ hk rfl)) L
    exact ⟨s₂, o', st' _ st, r⟩
  · rw [if_neg q]; exact am_none rfl
theorem am_iastore_k {k n : Nat} {i : Int32} {x y : Int32} (q : inb i n = true) (hy : x = y) (hd : decode bytes pc = .ok (.iastore, 1)) (hc : Cx p s m meth c Z own bytes maxL ret mn) (hk : w k = some (.inr (.int, n, none)))
    (κ : OkR p l e R s m args below meth c Z C fs n0 h0 F A w cells slots (pc + 1) Ls St (si σ k (nx i) y) t) : OkR p l e R s m args below meth c Z C fs n0 h0 F A w cells slots pc Ls (.int x :: .int i :: .ref k :: St) σ t := by
  have := am_iastore hy hd hc hk fun _ => κ
  rw [if_pos q] at this; exact this
theorem am_lastore {k n : Nat} {i : Int32} {x y : Int64} (hy : x = y) (hd : decode bytes pc = .ok (.lastore, 1)) (hc : Cx p s m meth c Z own bytes maxL ret mn) (hk : w k = some (.inr (.long, n, none)))
    (κ : inb i n = true → OkR p l e R s m args below meth c Z C fs n0 h0 F A w cells slots (pc + 1) Ls St (sj σ k (nx i) y) t) : OkR p l e R s m args below meth c Z C fs n0 h0 F A w cells slots pc Ls (.long x :: .int i :: .ref k :: St) σ (if inb i n = true then t else none) := by
  by_cases q : inb i n = true
  · rw [if_pos q]
    intro x' hx T locs rl X W O N f L
    obtain ⟨q1, q2, q3⟩ := inb_of' q
    obtain ⟨cl, a1, a2, a3⟩ := W.1 k _ hk
    obtain ⟨T', h', X', e', Q, st'⟩ := stJ X hc.1 hc.2.1 rfl a1 (q3 cl a2) (g := mkF m pc rl.toArray (.long x :: .int i :: .ref (A k) :: St.map (cv A))) rfl rfl (hb hc.2.2.1 hd)
    subst e'
    have W' : Wd Z C fs T'.heap A w (sj σ k (nx i) y) := by
      refine W.write hk Q (sj_off _ _ _ _) ⟨_, a1.same Q, by rw [sz_set]; exact a2, fun j hj => ?_⟩
      subst hy
      simp only [Cell.setSlot, aeo, ae]
      rw [q2]
      by_cases ej : j = nx i
      · subst ej
        rw [Array.getElem?_setIfInBounds_self_of_lt (by omega)]
        simp [gi_si, gj_sj, nar]
      · rw [Array.getElem?_setIfInBounds_ne (Ne.symm ej)]
        rw [a3 j hj]
        simp [aeo, ae, gi_si, gj_sj, ej]
    obtain ⟨s₂, o', st, r⟩ := κ q x' hx T' _ rl X' W' (O.write hk rfl Q) N (Fr.snoc X' f (N k _ hk rfl)) L
    exact ⟨s₂, o', st' _ st, r⟩
  · rw [if_neg q]; exact am_none rfl
theorem am_lastore_k {k n : Nat} {i : Int32} {x y : Int64} (q : inb i n = true) (hy : x = y) (hd : decode bytes pc = .ok (.lastore, 1)) (hc : Cx p s m meth c Z own bytes maxL ret mn) (hk : w k = some (.inr (.long, n, none)))
    (κ : OkR p l e R s m args below meth c Z C fs n0 h0 F A w cells slots (pc + 1) Ls St (sj σ k (nx i) y) t) : OkR p l e R s m args below meth c Z C fs n0 h0 F A w cells slots pc Ls (.long x :: .int i :: .ref k :: St) σ t := by
  have := am_lastore hy hd hc hk fun _ => κ
  rw [if_pos q] at this; exact this
theorem am_bastoreB {k n : Nat} {i : Int32} {x y : Int32} (hy : x.toInt8.toInt32 = y) (hd : decode bytes pc = .ok (.bastore, 1)) (hc : Cx p s m meth c Z own bytes maxL ret mn) (hk : w k = some (.inr (.byte, n, none)))
    (κ : inb i n = true → OkR p l e R s m args below meth c Z C fs n0 h0 F A w cells slots (pc + 1) Ls St (si σ k (nx i) y) t) : OkR p l e R s m args below meth c Z C fs n0 h0 F A w cells slots pc Ls (.int x :: .int i :: .ref k :: St) σ (if inb i n = true then t else none) := by
  by_cases q : inb i n = true
  · rw [if_pos q]
    intro x' hx T locs rl X W O N f L
    obtain ⟨q1, q2, q3⟩ := inb_of' q
    obtain ⟨cl, a1, a2, a3⟩ := W.1 k _ hk
    obtain ⟨T', h', X', e', Q, st'⟩ := stB X hc.1 hc.2.1 rfl a1 (q3 cl a2) (g := mkF m pc rl.toArray (.int x :: .int i :: .ref (A k) :: St.map (cv A))) rfl rfl (hb hc.2.2.1 hd)
    subst e'
    have W' : Wd Z C fs T'.heap A w (si σ k (nx i) y) := by
      refine W.write hk Q (si_off _ _ _ _) ⟨_, a1.same Q, by rw [sz_set]; exact a2, fun j hj => ?_⟩
      subst hy
      simp only [Cell.setSlot, aeo, ae]
      rw [q2]
      by_cases ej : j = nx i
      · subst ej
        rw [Array.getElem?_setIfInBounds_self_of_lt (by omega)]
        simp [gi_si, gj_sj, nar]
      · rw [Array.getElem?_setIfInBounds_ne (Ne.symm ej)]
        rw [a3 j hj]
        simp [aeo, ae, gi_si, gj_sj, ej]
    obtain ⟨s₂, o', st, r⟩ := κ q x' hx T' _ rl X' W' (O.write hk rfl Q) N (Fr.snoc X' f (N k _ hk rfl)) L
    exact ⟨s₂, o', st' _ st, r⟩
  · rw [if_neg q]; exact am_none rfl
theorem am_bastoreB_k {k n : Nat} {i : Int32} {x y : Int32} (q : inb i n = true) (hy : x.toInt8.toInt32 = y) (hd : decode bytes pc = .ok (.bastore, 1)) (hc : Cx p s m meth c Z own bytes maxL ret mn) (hk : w k = some (.inr (.byte, n, none)))
    (κ : OkR p l e R s m args below meth c Z C fs n0 h0 F A w cells slots (pc + 1) Ls St (si σ k (nx i) y) t) : OkR p l e R s m args below meth c Z C fs n0 h0 F A w cells slots pc Ls (.int x :: .int i :: .ref k :: St) σ t := by
  have := am_bastoreB hy hd hc hk fun _ => κ
  rw [if_pos q] at this; exact this
theorem am_bastoreZ {k n : Nat} {i : Int32} {x y : Int32} (hy : x &&& 1 = y) (hd : decode bytes pc = .ok (.bastore, 1)) (hc : Cx p s m meth c Z own bytes maxL ret mn) (hk : w k = some (.inr (.boolean, n, none)))
    (κ : inb i n = true → OkR p l e R s m args below meth c Z C fs n0 h0 F A w cells slots (pc + 1) Ls St (si σ k (nx i) y) t) : OkR p l e R s m args below meth c Z C fs n0 h0 F A w cells slots pc Ls (.int x :: .int i :: .ref k :: St) σ (if inb i n = true then t else none) := by
  by_cases q : inb i n = true
  · rw [if_pos q]
    intro x' hx T locs rl X W O N f L
    obtain ⟨q1, q2, q3⟩ := inb_of' q
    obtain ⟨cl, a1, a2, a3⟩ := W.1 k _ hk
    obtain ⟨T', h', X', e', Q, st'⟩ := stZ X hc.1 hc.2.1 rfl a1 (q3 cl a2) (g := mkF m pc rl.toArray (.int x :: .int i :: .ref (A k) :: St.map (cv A))) rfl rfl (hb hc.2.2.1 hd)
    subst e'
    have W' : Wd Z C fs T'.heap A w (si σ k (nx i) y) := by
      refine W.write hk Q (si_off _ _ _ _) ⟨_, a1.same Q, by rw [sz_set]; exact a2, fun j hj => ?_⟩
      subst hy
      simp only [Cell.setSlot, aeo, ae]
      rw [q2]
      by_cases ej : j = nx i
      · subst ej
        rw [Array.getElem?_setIfInBounds_self_of_lt (by omega)]
        simp [gi_si, gj_sj, nar]
      · rw [Array.getElem?_setIfInBounds_ne (Ne.symm ej)]
        rw [a3 j hj]
        simp [aeo, ae, gi_si, gj_sj, ej]
    obtain ⟨s₂, o', st, r⟩ := κ q x' hx T' _ rl X' W' (O.write hk rfl Q) N (Fr.snoc X' f (N k _ hk rfl)) L
    exact ⟨s₂, o', st' _ st, r⟩
  · rw [if_neg q]; exact am_none rfl
theorem am_bastoreZ_k {k n : Nat} {i : Int32} {x y : Int32} (q : inb i n = true) (hy : x &&& 1 = y) (hd : decode bytes pc = .ok (.bastore, 1)) (hc : Cx p s m meth c Z own bytes maxL ret mn) (hk : w k = some (.inr (.boolean, n, none)))
    (κ : OkR p l e R s m args below meth c Z C fs n0 h0 F A w cells slots (pc + 1) Ls St (si σ k (nx i) y) t) : OkR p l e R s m args below meth c Z C fs n0 h0 F A w cells slots pc Ls (.int x :: .int i :: .ref k :: St) σ t := by
  have := am_bastoreZ hy hd hc hk fun _ => κ
  rw [if_pos q] at this; exact this
theorem am_alen {k n : Nat} {ty : FieldType} {o : Option (Nat → Int32)} (hd : decode bytes pc = .ok (.arraylength, 1)) (hc : Cx p s m meth c Z own bytes maxL ret mn) (hk : w k = some (.inr (ty, n, o)))
    (κ : OkR p l e R s m args below meth c Z C fs n0 h0 F A w cells slots (pc + 1) Ls (.int n.toInt32 :: St) σ t) : OkR p l e R s m args below meth c Z C fs n0 h0 F A w cells slots pc Ls (.ref k :: St) σ t := by
  intro x hx T locs rl X W O N f L
  obtain ⟨cl, a1, a2, a3⟩ := W.1 k _ hk
  subst a2
  obtain ⟨s₂, o', st, r⟩ := κ x hx T locs rl X W O N f L
  exact ⟨s₂, o', X.arraylength hc.1 a1.1 (State.isArrayOf_alike hc.2.1.alike a1.2.1) (g := mkF m pc rl.toArray (.ref (A k) :: St.map (cv A))) rfl rfl (hb hc.2.2.1 hd) _ st, r⟩
theorem am_irem {x y : Int32} (hd : decode bytes pc = .ok (.irem, 1)) (hc : Cx p s m meth c Z own bytes maxL ret mn)
    (κ : y ≠ 0 → OkR p l e R s m args below meth c Z C fs n0 h0 F A w cells slots (pc + 1) Ls (.int (x % y) :: St) σ t) : OkR p l e R s m args below meth c Z C fs n0 h0 F A w cells slots pc Ls (.int y :: .int x :: St) σ (if y = 0 then none else t) := by
  by_cases q : y = 0
  · rw [if_pos q]; exact am_none rfl
  · rw [if_neg q]
    intro x' hx T locs rl X W O N f L
    obtain ⟨s₂, o', st, r⟩ := κ q x' hx T locs rl X W O N f L
    exact ⟨s₂, o', iremM X hc.1 rfl (hb hc.2.2.1 hd) rfl q st, r⟩
theorem am_idiv {x y : Int32} (hd : decode bytes pc = .ok (.idiv, 1)) (hc : Cx p s m meth c Z own bytes maxL ret mn)
    (κ : y ≠ 0 → OkR p l e R s m args below meth c Z C fs n0 h0 F A w cells slots (pc + 1) Ls (.int (x / y) :: St) σ t) : OkR p l e R s m args below meth c Z C fs n0 h0 F A w cells slots pc Ls (.int y :: .int x :: St) σ (if y = 0 then none else t) := by
  by_cases q : y = 0
  · rw [if_pos q]; exact am_none rfl
  · rw [if_neg q]
    intro x' hx T locs rl X W O N f L
    obtain ⟨s₂, o', st, r⟩ := κ q x' hx T locs rl X W O N f L
    exact ⟨s₂, o', XS.idiv X.here hc.1 rfl (hb hc.2.2.1 hd) rfl q st, r⟩
theorem am_retI {z : Int32} {a : α} (hd : decode bytes pc = .ok (.ireturn, 1)) (hc : Cx p s m meth c Z own bytes maxL (some .int) mn) (hcs : cells ≤ R.cells) (hsl : slots ≤ R.slots) (hF : ∀ h, Wd Z C fs h A w σ → Out h0 h A w → F a (some (.int z)) h) : OkR p l e R s m args below meth c Z C fs n0 h0 F A w cells slots pc Ls (.int z :: St) σ (some a) := by
  intro x' hx T locs rl X W O N f L
  cases hx
  obtain ⟨fs', hr, hrun, hended, hW, hsame⟩ := X.leave (v := some (.int z)) (fun h => by rw [hc.2.2.2.2.2.1] at h; cases h) hc.2.2.2.2.2.2.1
  exact ⟨_, _, retOut X hc.1 hc.2.2.2.2.2.1 rfl (Or.inl ⟨rfl, Or.inl rfl, z, rfl⟩) (hb hc.2.2.1 hd) hr, hrun, hended, _, locs, rfl, ⟨hF _ W O, f⟩, ⟨_, rfl⟩, hW, hsame.mono hcs hsl⟩
theorem am_retZ {z : Int32} {a : α} (hd : decode bytes pc = .ok (.ireturn, 1)) (hc : Cx p s m meth c Z own bytes maxL (some .boolean) mn) (hcs : cells ≤ R.cells) (hsl : slots ≤ R.slots) (hF : ∀ h, Wd Z C fs h A w σ → Out h0 h A w → F a (some (.int (z &&& 1))) h) : OkR p l e R s m args below meth c Z C fs n0 h0 F A w cells slots pc Ls (.int z :: St) σ (some a) := by
  intro x' hx T locs rl X W O N f L
  cases hx
  obtain ⟨fs', hr, hrun, hended, hW, hsame⟩ := X.leave (v := some (.int (z &&& 1))) (fun h => by rw [hc.2.2.2.2.2.1] at h; cases h) hc.2.2.2.2.2.2.1
  exact ⟨_, _, retN X hc.1 (t := .boolean) hc.2.2.2.2.2.1 (Or.inl rfl) (hb hc.2.2.1 hd) hr, hrun, hended, _, locs, rfl, ⟨hF _ W O, f⟩, ⟨_, rfl⟩, hW, hsame.mono hcs hsl⟩
theorem am_retJ {z : Int64} {a : α} (hd : decode bytes pc = .ok (.lreturn, 1)) (hc : Cx p s m meth c Z own bytes maxL (some .long) mn) (hcs : cells ≤ R.cells) (hsl : slots ≤ R.slots) (hF : ∀ h, Wd Z C fs h A w σ → Out h0 h A w → F a (some (.long z)) h) : OkR p l e R s m args below meth c Z C fs n0 h0 F A w cells slots pc Ls (.long z :: St) σ (some a) := by
  intro x' hx T locs rl X W O N f L
  cases hx
  obtain ⟨fs', hr, hrun, hended, hW, hsame⟩ := X.leave (v := some (.long z)) (fun h => by rw [hc.2.2.2.2.2.1] at h; cases h) hc.2.2.2.2.2.2.1
  exact ⟨_, _, retOut X hc.1 hc.2.2.2.2.2.1 rfl (Or.inr (Or.inl ⟨rfl, rfl, z, rfl⟩)) (hb hc.2.2.1 hd) hr, hrun, hended, _, locs, rfl, ⟨hF _ W O, f⟩, ⟨_, rfl⟩, hW, hsame.mono hcs hsl⟩
theorem am_retV {a : α} (hd : decode bytes pc = .ok (.return_, 1)) (hc : Cx p s m meth c Z own bytes maxL (none) mn) (hcs : cells ≤ R.cells) (hsl : slots ≤ R.slots) (hF : ∀ h, Wd Z C fs h A w σ → Out h0 h A w → F a (none) h) : OkR p l e R s m args below meth c Z C fs n0 h0 F A w cells slots pc Ls [] σ (some a) := by
  intro x' hx T locs rl X W O N f L
  cases hx
  obtain ⟨fs', hr, hrun, hended, hW, hsame⟩ := X.leave (v := none) (fun _ => rfl) hc.2.2.2.2.2.2.1
  exact ⟨_, _, X.returnOut hc.1 hc.2.2.2.2.2.1 (hb hc.2.2.1 hd) hr, hrun, hended, _, locs, rfl, ⟨hF _ W O, f⟩, ⟨_, rfl⟩, hW, hsame.mono hcs hsl⟩

def wkL : List Slot → List Slot → Prop
  | [], [] => True
  | .val v :: l, x :: l' => x = .val v ∧ wkL l l'
  | .unset :: l, _ :: l' => wkL l l'
  | .second :: l, _ :: l' => wkL l l'
  | _, _ => False
theorem wkL_ok : ∀ {l l' : List Slot}, wkL l l' → l.length = l'.length ∧ ∀ (k : Nat) (v : Value), l[k]? = some (.val v) → l'[k]? = some (.val v)
  | [], [], _ => ⟨rfl, fun k v h => by simp at h⟩
  | .val u :: l, x :: l', h => by
    obtain ⟨h1, h2⟩ := h
    obtain ⟨a, b⟩ := wkL_ok h2
    refine ⟨by simp [a], fun k v q => ?_⟩
    cases k with
    | zero => simp at q ⊢; rw [h1, q]
    | succ k => rw [List.getElem?_cons_succ] at q ⊢; exact b k v q
  | .unset :: l, x :: l', h => by
    obtain ⟨a, b⟩ := wkL_ok (show wkL l l' from h)
    refine ⟨by simp [a], fun k v q => ?_⟩
    cases k with
    | zero => simp at q
    | succ k => rw [List.getElem?_cons_succ] at q ⊢; exact b k v q
  | .second :: l, x :: l', h => by
    obtain ⟨a, b⟩ := wkL_ok (show wkL l l' from h)
    refine ⟨by simp [a], fun k v q => ?_⟩
    cases k with
    | zero => simp at q
    | succ k => rw [List.getElem?_cons_succ] at q ⊢; exact b k v q
theorem am_wk (h : wkL Ls' Ls) (κ : OkR p l e R s m args below meth c Z C fs n0 h0 F A w cells slots pc Ls' St σ t) : OkR p l e R s m args below meth c Z C fs n0 h0 F A w cells slots pc Ls St σ t := by
  intro x' hx T locs rl X W O N f L
  obtain ⟨a, b⟩ := wkL_ok h
  exact κ x' hx T locs rl X W O N f ⟨by rw [L.1, a], L.2.1, fun k v q => L.2.2 k v (b k v q)⟩

/-! calls -/
def FM (Z : State) (C : String) (fs : FS) (A : Nat → Addr) (w : Nat → Option CD) (h0 : Heap) (g : α → Option Value × Sg) : α → Option Value → Heap → Prop := fun x v h => v = (g x).1.map (cv A) ∧ Wd Z C fs h A w (g x).2 ∧ Out h0 h A w
def Con (l : Launch) (Z : State) (C : String) (fs : FS) (y : MethodName) (bytes : ByteArray) (maxL : Nat) (ret : Option FieldType) (rm : Room) (w : Nat → Option CD) (as : List Value) (σ : Sg) (v : Option Value) (σ' : Sg) : Prop :=
  ∀ (A : Nat → Addr) (n0 : Nat) (h : Heap) (ws : List Jvm.Cond), Wd Z C fs h A w σ → Nw n0 A w →
    MetFree l y (head1 (Jvm.Cond.code y bytes maxL ret :: ws) rm) (fun a U => a = (as.map (cv A)).toArray ∧ Z.Warmed39 U.vm ∧ U.heap = h) (fun _ _ _ _ _ => True) (fun _ U o U' => ∃ v' L, o = .returned v' ∧ ((v' = v.map (cv A) ∧ Wd Z C fs U'.heap A w σ' ∧ Out h U'.heap A w) ∧ Fr n0 L) ∧ FrameEnd U o U' L rm.cells rm.slots)
theorem am_met {y : MethodName} {rm : Room} {ws : List Jvm.Cond} {as : List Value} {h : Heap} {x : α} (pn : plainName y.cls = true) (ht : t = some x) (W : Wd Z C fs h A w σ) (N : Nw n0 A w)
    (H : ∀ (p : Program) (e : Env) (s : State) (m : MethodId) (below : List Frame) (meth : Method) (c : Code), Cx p s m meth c Z y.cls bytes maxL ret y.name → OkR p l e rm s m (as.map (cv A)).toArray below meth c Z C fs n0 h F A w 0 0 0 (entL as maxL) [] σ t) :
    MetFree l y (head1 (Jvm.Cond.code y bytes maxL ret :: ws) rm) (fun a U => a = (as.map (cv A)).toArray ∧ Z.Warmed39 U.vm ∧ U.heap = h) (fun _ _ _ _ _ => True) (fun _ U o U' => ∃ v L, o = .returned v ∧ (F x v U'.heap ∧ Fr n0 L) ∧ FrameEnd U o U' L rm.cells rm.slots) := by
  refine MetFree.of_bodySF (plainFor_of_name pn) hisR ?_
  intro p e s m args below meth c s₁ Bd hml0 hP hK
  obtain ⟨rfl, hZ, hh⟩ := hP
  have e0 : s₁.heap = h := by rw [← hh, Bd.state]; rfl
  obtain ⟨s₂, o, st, r⟩ := H p e s m below meth c ⟨Bd.exec, hZ, Bd.bytes, findClass_of_methodNamed Bd.named, hml0, Bd.returns, Bd.notSynchronized, (name_of_methodNamed Bd.named Bd.method).1⟩ x ht s₁ [] _ (Stand.of_body Bd) (by rw [e0]; exact W) (by rw [e0]; exact Out.refl _ _ _) N (Fr.nil n0) (entL_ok A as maxL)
  refine ⟨s₂, o, castTop ?_ st, r⟩
  simp only [entryFrame, mkF, List.map_nil, entL_arr]
theorem am_con {y : MethodName} {rm : Room} {as : List Value} {g : α → Option Value × Sg} (pn : plainName y.cls = true)
    (H : ∀ (p : Program) (e : Env) (s : State) (m : MethodId) (below : List Frame) (meth : Method) (c : Code) (A : Nat → Addr) (n0 : Nat) (h : Heap), Cx p s m meth c Z y.cls bytes maxL ret y.name → OkR p l e rm s m (as.map (cv A)).toArray below meth c Z C fs n0 h (FM Z C fs A w h g) A w 0 0 0 (entL as maxL) [] σ t) :
    ∀ x, t = some x → Con l Z C fs y bytes maxL ret rm w as σ (g x).1 (g x).2 :=
  fun x ht A n0 h ws W N => am_met pn ht W N fun p e s m below meth c hc => H p e s m below meth c A n0 h hc
def SubW (wc w : Nat → Option CD) : Prop := (∀ k d, wc k = some d → w k = some d) ∧ ∀ k d, w k = some d → wc k = some d ∨ wrb d = false
theorem SubW.refl (w : Nat → Option CD) : SubW w w := ⟨fun _ _ h => h, fun _ _ h => Or.inl h⟩
theorem SubW.wd {wc : Nat → Option CD} {h : Heap} (S : SubW wc w) (W : Wd Z C fs h A w σ) : Wd Z C fs h A wc σ := ⟨fun k d q => W.1 k d (S.1 k d q), fun k k' d d' q q' => W.2 k k' d d' (S.1 k d q) (S.1 k' d' q')⟩
theorem SubW.back {wc : Nat → Option CD} {h h' : Heap} (S : SubW wc w) (W : Wd Z C fs h A w σ) (W' : Wd Z C fs h' A wc σ') (O : Out h h' A wc) : Wd Z C fs h' A w σ' := by
  refine ⟨fun k d q => ?_, W.2⟩
  rcases S.2 k d q with z | z
  · exact W'.1 k d z
  · rcases d with q' | ⟨ty, n, o⟩
    · cases z
    · cases o with
      | none => cases z
      | some f =>
        obtain ⟨cl, a1, a2, a3⟩ := W.1 k _ q
        have := O.2 (A k) cl a1.1 fun k' d' q1 q2 e => by
          have := W.2 _ _ _ _ (S.1 _ _ q1) q e
          subst this
          have := S.1 _ _ q1
          rw [q] at this; cases this; cases q2
        exact ⟨cl, ⟨this, a1.2⟩, a2, a3⟩
theorem Out.trans' {wc : Nat → Option CD} {h h' : Heap} (S : SubW wc w) (O : Out h0 h A w) (O' : Out h h' A wc) : Out h0 h' A w := ⟨Nat.le_trans O.1 O'.1, fun b c q n => O'.2 b c (O.2 b c q n) fun k d q1 q2 => n k d (S.1 k d q1) q2⟩
def notMH (y : MethodName) : Prop := y.cls ≠ "java/lang/invoke/MethodHandle" ∧ y.cls ≠ "java/lang/invoke/VarHandle"
def LkP (Z : State) (a0 : Array Value) (own : String) (i : Nat) (y : MethodName) (b : ByteArray) (mL : Nat) (rt : Option FieldType) : Prop := (Cond.methodLink own i y).before a0 Z = true ∧ (Cond.instanceMethod y).before a0 Z = true ∧ (Cond.code y b mL rt).before a0 Z = true ∧ (Cond.initialized y.cls).before a0 Z = true ∧ notMH y ∧ (Cond.privateMethod y).before a0 Z = true
def LkV (Z : State) (a0 : Array Value) (own : String) (i : Nat) (y : MethodName) (b : ByteArray) (mL : Nat) (rt : Option FieldType) : Prop := (Cond.methodLink own i y).before a0 Z = true ∧ (Cond.instanceMethod y).before a0 Z = true ∧ (Cond.code y b mL rt).before a0 Z = true ∧ (Cond.initialized y.cls).before a0 Z = true ∧ notMH y ∧ (Cond.declares y).before a0 Z = true ∧ (Cond.selects y.cls y y).before a0 Z = true
def LkS (Z : State) (a0 : Array Value) (own : String) (i : Nat) (y : MethodName) (b : ByteArray) (mL : Nat) (rt : Option FieldType) : Prop := (Cond.methodLink own i y).before a0 Z = true ∧ (Cond.static y).before a0 Z = true ∧ (Cond.code y b mL rt).before a0 Z = true ∧ (Cond.initialized y.cls).before a0 Z = true ∧ notMH y
def arity (d : String) (n : Nat) : Bool := match parseMethodDescriptor d with
  | some sig => sig.parameters.length == n
  | none => true
theorem arity_ok {d : String} {n : Nat} {L : List Value} (h : arity d n = true) (hl : L.length = n) : ∀ sig, parseMethodDescriptor d = some sig → L.length = sig.parameters.length := fun sig q => by
  simp only [arity, q, beq_iff_eq] at h; omega
def catS (l : List Value) : Nat := (l.map fun v => v.category).sum
theorem catS_map (A : Nat → Addr) (l : List Value) : ((l.map (cv A)).map fun v => v.category).sum = catS l := by
  unfold catS; rw [List.map_map]; congr 1; apply List.map_congr_left; intro v _; exact cv_cat A v
theorem am_callP {y : MethodName} {b : ByteArray} {mL i : Nat} {rt : Option FieldType} {rm : Room} {wc : Nat → Option CD} {argsL rest : List Value} {β : Type} {g : β → Option Value × Sg} {u : Option β} {K : β → Option α} {W0 : Nat} {k q : Nat} (hk : wc k = some (.inl q)) (hl : LkP Z a0 own i y b mL rt) (hyc : y.cls = C) (wi : (Cond.instantiable C kk).before a0 Z = true) (hd : decode bytes pc = .ok (.invokevirtual i, 3)) (hc : Cx p s m meth c Z own bytes maxL ret mn) (hS : SubW wc w) (hst : St = argsL.reverse ++ .ref k :: rest) (har : arity y.desc argsL.length = true)
    (hcon : ∀ x, u = some x → Con l Z C fs y b mL rt rm wc (.ref k :: argsL) σ (g x).1 (g x).2) (hm : Ls.length = maxL) (hrm : rm.frames + 1 ≤ R.frames ∧ W0 + (mL + 11) + rm.locals ≤ R.locals ∧ catS rest ≤ W0 ∧ rm.cells = 0 ∧ rm.slots = 0 ∧ cells ≤ R.cells ∧ slots ≤ R.slots)
    (κ : ∀ x, u = some x → OkR p l e R s m args below meth c Z C fs n0 h0 F A w cells slots (pc + 3) Ls ((g x).1.toList ++ rest) (g x).2 (K x)) : OkR p l e R s m args below meth c Z C fs n0 h0 F A w cells slots pc Ls St σ (u.bind K) := by
  subst hst
  intro x' hx T locs rl X W O N f L
  obtain ⟨r1, r2, r3, r4, r5, r6, r7⟩ := hrm
  cases hu : u with
  | none => rw [hu] at hx; cases hx
  | some y0 =>
    rw [hu] at hx
    have hx' : K y0 = some x' := hx
    have Wc := hS.wd W
    have Nc : Nw n0 A wc := fun k d q1 q2 => N k d (hS.1 k d q1) q2
    have hM := hcon y0 hu A n0 T.heap [] Wc Nc
    have hB := backOf (h := T.heap) (Q := fun v h' L => (v = Option.map (cv A) (g y0).1 ∧ Wd Z C fs h' A wc (g y0).2 ∧ Out T.heap h' A wc) ∧ Fr n0 L) (W := W0) (R := R) (p := p) (e := e) (below := below) (s := s) (args := args) (len := 3) hM hc.2.1 hl.2.2.1 hl.2.2.2.1 r1 r2
    have hsz : (mkF m pc rl.toArray (List.map (cv A) (argsL.reverse ++ .ref k :: rest))).locals.size = c.maxLocals := by show rl.toArray.size = _; rw [List.size_toArray, L.1, hm, hc.2.2.2.2.1]
    obtain ⟨cc, kc, i1, i2, -, i4, -⟩ := Cond.instantiable_spec (mv (args := #[]) hc.2.1 wi)
    have hsel := selects_self_of_private (s := s) (args := args) (y := y) (by rw [hyc]; exact i1) i2 (Bool.or_eq_false_iff.mp i4).1 (Cond.privateMethod_at (mvP hc.2.1 hl.2.2.2.2.2 (args := #[]))) (mv hc.2.1 hl.2.1) hl.2.2.2.2.1
    obtain ⟨cl, q1, q2⟩ := (Wc.1 k _ hk).1.cell
    obtain ⟨v, _, ⟨T1, L1, k1, n1⟩, -, X1, ⟨Lc, hQ, l1, c1, s1⟩, st⟩ := X.privateBack hc.1 hc.2.2.2.1 (mv hc.2.1 hl.1) (mv hc.2.1 hl.2.1) hsel (Cond.privateMethod_at (mvP hc.2.1 hl.2.2.2.2.2 (args := #[]))) (mv hc.2.1 hl.2.2.1) hl.2.2.2.2.1 hB (g := mkF m pc rl.toArray (List.map (cv A) (argsL.reverse ++ .ref k :: rest))) rfl hsz (Steps.refl _) (a := A k) q1 q2 (argsL := argsL.map (cv A)) (rest := rest.map (cv A)) (arity_ok har (by simp)) (by simp [cv]) (by show 2 * 0 + _ ≤ W0; rw [catS_map]; omega) (hb hc.2.2.1 hd) (fun _ _ => ⟨by simp [cv], rfl, by dsimp only [Pt.cells]; omega, by dsimp only [Pt.slots]; omega⟩)
    dsimp only [Pt.U, Pt.locs, Pt.cells, Pt.slots] at X1 l1 c1 s1 st hQ
    obtain ⟨⟨v1, W1, O1⟩, N1⟩ := hQ
    rw [r4, Nat.add_zero] at c1
    rw [r5, Nat.add_zero] at s1
    subst l1 c1 s1
    obtain ⟨s₂, o', st2, r⟩ := κ y0 hu x' hx' T1 _ rl X1 (hS.back W W1 O1) (Out.trans' hS O O1) N (Fr.app f N1) L
    have ev : (g y0).1.map (cv A) = v := v1.symm
    have e3 : List.map (cv A) ((g y0).1.toList ++ rest) = v.toList ++ rest.map (cv A) := by rw [List.map_append, ← ev]; cases (g y0).1 <;> rfl
    rw [e3] at st2
    exact ⟨s₂, o', st.trans st2, r⟩
theorem am_callV {y : MethodName} {b : ByteArray} {mL i : Nat} {rt : Option FieldType} {rm : Room} {wc : Nat → Option CD} {argsL rest : List Value} {β : Type} {g : β → Option Value × Sg} {u : Option β} {K : β → Option α} {W0 : Nat} {k q : Nat} (hk : wc k = some (.inl q)) (hl : LkV Z a0 own i y b mL rt) (hyc : y.cls = C) (hd : decode bytes pc = .ok (.invokevirtual i, 3)) (hc : Cx p s m meth c Z own bytes maxL ret mn) (hS : SubW wc w) (hst : St = argsL.reverse ++ .ref k :: rest) (har : arity y.desc argsL.length = true)
    (hcon : ∀ x, u = some x → Con l Z C fs y b mL rt rm wc (.ref k :: argsL) σ (g x).1 (g x).2) (hm : Ls.length = maxL) (hrm : rm.frames + 1 ≤ R.frames ∧ W0 + (mL + 11) + rm.locals ≤ R.locals ∧ catS rest ≤ W0 ∧ rm.cells = 0 ∧ rm.slots = 0 ∧ cells ≤ R.cells ∧ slots ≤ R.slots)
    (κ : ∀ x, u = some x → OkR p l e R s m args below meth c Z C fs n0 h0 F A w cells slots (pc + 3) Ls ((g x).1.toList ++ rest) (g x).2 (K x)) : OkR p l e R s m args below meth c Z C fs n0 h0 F A w cells slots pc Ls St σ (u.bind K) := by
  subst hst
  intro x' hx T locs rl X W O N f L
  obtain ⟨r1, r2, r3, r4, r5, r6, r7⟩ := hrm
  cases hu : u with
  | none => rw [hu] at hx; cases hx
  | some y0 =>
    rw [hu] at hx
    have hx' : K y0 = some x' := hx
    have Wc := hS.wd W
    have Nc : Nw n0 A wc := fun k d q1 q2 => N k d (hS.1 k d q1) q2
    have hM := hcon y0 hu A n0 T.heap [] Wc Nc
    have hB := backOf (h := T.heap) (Q := fun v h' L => (v = Option.map (cv A) (g y0).1 ∧ Wd Z C fs h' A wc (g y0).2 ∧ Out T.heap h' A wc) ∧ Fr n0 L) (W := W0) (R := R) (p := p) (e := e) (below := below) (s := s) (args := args) (len := 3) hM hc.2.1 hl.2.2.1 hl.2.2.2.1 r1 r2
    have hsz : (mkF m pc rl.toArray (List.map (cv A) (argsL.reverse ++ .ref k :: rest))).locals.size = c.maxLocals := by show rl.toArray.size = _; rw [List.size_toArray, L.1, hm, hc.2.2.2.2.1]
    obtain ⟨cB, kB, q1, q2, q3⟩ := isOf (T := T) hc.2.1 rfl (Wc.1 k _ hk).1
    obtain ⟨v, _, ⟨T1, L1, k1, n1⟩, -, X1, ⟨Lc, hQ, l1, c1, s1⟩, st⟩ := X.virtualBack hc.1 (C := y.cls) (y := y) (z := y) hc.2.2.2.1 (mv hc.2.1 hl.1) (mv hc.2.1 hl.2.2.2.2.2.1) (notFace_of_selects (args := #[]) (mv hc.2.1 hl.2.2.2.2.2.2)) (mv hc.2.1 hl.2.2.2.2.2.2) (mv hc.2.1 hl.2.1) hl.2.2.2.2.1 hB (by rw [hyc]; exact q1) q3 (g := mkF m pc rl.toArray (List.map (cv A) (argsL.reverse ++ .ref k :: rest))) rfl hsz (Steps.refl _) (argsL := argsL.map (cv A)) (rest := rest.map (cv A)) (arity_ok har (by simp)) (by simp [cv]) (by show 2 * 0 + _ ≤ W0; rw [catS_map]; omega) (hb hc.2.2.1 hd) (fun _ _ => ⟨by simp [cv], rfl, by dsimp only [Pt.cells]; omega, by dsimp only [Pt.slots]; omega⟩)
    dsimp only [Pt.U, Pt.locs, Pt.cells, Pt.slots] at X1 l1 c1 s1 st hQ
    obtain ⟨⟨v1, W1, O1⟩, N1⟩ := hQ
    rw [r4, Nat.add_zero] at c1
    rw [r5, Nat.add_zero] at s1
    subst l1 c1 s1
    obtain ⟨s₂, o', st2, r⟩ := κ y0 hu x' hx' T1 _ rl X1 (hS.back W W1 O1) (Out.trans' hS O O1) N (Fr.app f N1) L
    have ev : (g y0).1.map (cv A) = v := v1.symm
    have e3 : List.map (cv A) ((g y0).1.toList ++ rest) = v.toList ++ rest.map (cv A) := by rw [List.map_append, ← ev]; cases (g y0).1 <;> rfl
    rw [e3] at st2
    exact ⟨s₂, o', st.trans st2, r⟩
theorem am_callS {y : MethodName} {b : ByteArray} {mL i : Nat} {rt : Option FieldType} {rm : Room} {wc : Nat → Option CD} {argsL rest : List Value} {β : Type} {g : β → Option Value × Sg} {u : Option β} {K : β → Option α} {W0 : Nat} (hl : LkS Z a0 own i y b mL rt) (hd : decode bytes pc = .ok (.invokestatic i, 3)) (hc : Cx p s m meth c Z own bytes maxL ret mn) (hS : SubW wc w) (hst : St = argsL.reverse ++ rest) (har : arity y.desc argsL.length = true)
    (hcon : ∀ x, u = some x → Con l Z C fs y b mL rt rm wc argsL σ (g x).1 (g x).2) (hm : Ls.length = maxL) (hrm : rm.frames + 1 ≤ R.frames ∧ W0 + (mL + 11) + rm.locals ≤ R.locals ∧ catS rest ≤ W0 ∧ rm.cells = 0 ∧ rm.slots = 0 ∧ cells ≤ R.cells ∧ slots ≤ R.slots)
    (κ : ∀ x, u = some x → OkR p l e R s m args below meth c Z C fs n0 h0 F A w cells slots (pc + 3) Ls ((g x).1.toList ++ rest) (g x).2 (K x)) : OkR p l e R s m args below meth c Z C fs n0 h0 F A w cells slots pc Ls St σ (u.bind K) := by
  subst hst
  intro x' hx T locs rl X W O N f L
  obtain ⟨r1, r2, r3, r4, r5, r6, r7⟩ := hrm
  cases hu : u with
  | none => rw [hu] at hx; cases hx
  | some y0 =>
    rw [hu] at hx
    have hx' : K y0 = some x' := hx
    have Wc := hS.wd W
    have Nc : Nw n0 A wc := fun k d q1 q2 => N k d (hS.1 k d q1) q2
    have hM := hcon y0 hu A n0 T.heap [] Wc Nc
    have hB := backOf (h := T.heap) (Q := fun v h' L => (v = Option.map (cv A) (g y0).1 ∧ Wd Z C fs h' A wc (g y0).2 ∧ Out T.heap h' A wc) ∧ Fr n0 L) (W := W0) (R := R) (p := p) (e := e) (below := below) (s := s) (args := args) (len := 3) hM hc.2.1 hl.2.2.1 hl.2.2.2.1 r1 r2
    have hsz : (mkF m pc rl.toArray (List.map (cv A) (argsL.reverse ++ rest))).locals.size = c.maxLocals := by show rl.toArray.size = _; rw [List.size_toArray, L.1, hm, hc.2.2.2.2.1]
    obtain ⟨v, _, ⟨T1, L1, k1, n1⟩, -, X1, ⟨Lc, hQ, l1, c1, s1⟩, st⟩ := Jvm.LawKit.callS X hc.1 (y := y) hc.2.2.2.1 (mv hc.2.1 hl.1) (mv hc.2.1 hl.2.1) (mv hc.2.1 hl.2.2.2.1) (mv hc.2.1 hl.2.2.1) hl.2.2.2.2 hB (g := mkF m pc rl.toArray (List.map (cv A) (argsL.reverse ++ rest))) rfl hsz (argsL := argsL.map (cv A)) (rest := rest.map (cv A)) (arity_ok har (by simp)) (by simp) (by show 2 * 0 + _ ≤ W0; rw [catS_map]; omega) (hb hc.2.2.1 hd) (fun _ _ => ⟨by simp [cv], rfl, by dsimp only [Pt.cells]; omega, by dsimp only [Pt.slots]; omega⟩)
    dsimp only [Pt.U, Pt.locs, Pt.cells, Pt.slots] at X1 l1 c1 s1 st hQ
    obtain ⟨⟨v1, W1, O1⟩, N1⟩ := hQ
    rw [r4, Nat.add_zero] at c1
    rw [r5, Nat.add_zero] at s1
    subst l1 c1 s1
    obtain ⟨s₂, o', st2, r⟩ := κ y0 hu x' hx' T1 _ rl X1 (hS.back W W1 O1) (Out.trans' hS O O1) N (Fr.app f N1) L
    have ev : (g y0).1.map (cv A) = v := v1.symm
    have e3 : List.map (cv A) ((g y0).1.toList ++ rest) = v.toList ++ rest.map (cv A) := by rw [List.map_append, ← ev]; cases (g y0).1 <;> rfl
    rw [e3] at st2
    exact ⟨s₂, o', st _ st2, r⟩

/-! making the object -/
def nrV (ok : Nat → Bool) : Value → Bool
  | .ref k => ok k
  | _ => true
def nrS (ok : Nat → Bool) : Slot → Bool
  | .val v => nrV ok v
  | _ => true
theorem nrV_cv {ok : Nat → Bool} {A' : Nat → Addr} (hA : ∀ k, ok k = true → A' k = A k) {v : Value} (h : nrV ok v = true) : cv A' v = cv A v := by
  cases v <;> first | rfl | (simp only [cv]; rw [hA _ h])
theorem nr_map {ok : Nat → Bool} {A' : Nat → Addr} (hA : ∀ k, ok k = true → A' k = A k) : ∀ {St : List Value}, St.all (nrV ok) = true → St.map (cv A') = St.map (cv A)
  | [], _ => rfl
  | v :: r, h => by
    rw [List.all_cons, Bool.and_eq_true] at h
    rw [List.map_cons, List.map_cons, nrV_cv hA h.1, nr_map hA h.2]
theorem nr_ls {ok : Nat → Bool} {A' : Nat → Addr} {rl : List Slot} (hA : ∀ k, ok k = true → A' k = A k) (h : Ls.all (nrS ok) = true) (L : LsOk A Ls rl) : LsOk A' Ls rl := by
  refine ⟨L.1, L.2.1, fun k v q => ?_⟩
  have := List.all_eq_true.mp h _ (List.mem_of_getElem? q)
  rw [nrV_cv hA this]; exact L.2.2 k v q
def wK (arrs : List (FieldType × Nat)) (a q : Nat) : Nat → Option CD
  | 0 => some (.inl q)
  | k + 1 => if k < a then (arrs[k]?).map fun x => .inr (x.1, x.2, none) else none
def AE (h0 : Heap) (A0 A : Nat → Addr) (a : Nat) : Prop := A 0 = A0 0 ∧ ∀ k, 1 ≤ k → k ≤ a → h0.size ≤ A k
def FI (Z : State) (C : String) (fs : FS) (arrs : List (FieldType × Nat)) (A0 : Nat → Addr) (h0 : Heap) : Sg → Option Value → Heap → Prop := fun σ v h => v = none ∧ ∃ A : Nat → Addr, AE h0 A0 A arrs.length ∧ Wd Z C fs h A (wK arrs arrs.length arrs.length) σ ∧ h0.size ≤ h.size ∧ ∀ (b : Addr) (c : Cell), h0[b]? = some c → b ≠ A0 0 → h[b]? = some c
theorem FI_of {arrs : List (FieldType × Nat)} {A0 : Nat → Addr} (hA : AE h0 A0 A arrs.length) (h : Heap) (W : Wd Z C fs h A (wK arrs arrs.length arrs.length) σ) (O : Out h0 h A (wK arrs arrs.length arrs.length)) : FI Z C fs arrs A0 h0 σ none h := by
  refine ⟨rfl, A, hA, W, O.1, fun b c q ne => O.2 b c q fun k d z1 z2 z3 => ?_⟩
  cases k with
  | zero => exact ne (z3.symm.trans hA.1)
  | succ k =>
    have : k < arrs.length := by simp only [wK] at z1; split at z1 <;> first | assumption | cases z1
    have := hA.2 (k + 1) (by omega) (by omega)
    have := (Array.getElem?_eq_some_iff.mp q).1
    have z3 : @Eq Nat _ _ := z3
    omega
theorem am_objinit {k i W0 : Nat} (hd : decode bytes pc = .ok (.invokespecial i, 3)) (hc : Cx p s m meth c Z own bytes maxL ret mn) (w1 : (Cond.methodLink own i Lib.objectInit).before a0 Z = true) (w2 : (Cond.instanceMethod Lib.objectInit).before a0 Z = true) (w3 : (Cond.code Lib.objectInit ⟨#[0xb1]⟩ 1 none).before a0 Z = true) (hm : Ls.length = maxL) (hR : 1 ≤ R.frames ∧ W0 + 12 ≤ R.locals ∧ catS St ≤ W0)
    (κ : OkR p l e R s m args below meth c Z C fs n0 h0 F A w cells slots (pc + 3) Ls St σ t) : OkR p l e R s m args below meth c Z C fs n0 h0 F A w cells slots pc Ls (.ref k :: St) σ t := by
  intro x' hx T locs rl X W O N f L
  obtain ⟨T', X', e', st⟩ := initO X hc.1 hc.2.1 hc.2.2.2.1 w1 w2 w3 rfl (g := mkF m pc rl.toArray (.ref (A k) :: St.map (cv A))) rfl (by show rl.toArray.size = _; rw [List.size_toArray, L.1, hm, hc.2.2.2.2.1]) rfl (hb hc.2.2.1 hd) hR.1 (W := W0) (by show 2 * 0 + _ ≤ W0; rw [catS_map]; omega) hR.2.1
  obtain ⟨s₂, o', st2, r⟩ := κ x' hx T' locs rl X' (by rw [e']; exact W) (by rw [e']; exact O) N f L
  exact ⟨s₂, o', st _ st2, r⟩
theorem am_newarr {arrs : List (FieldType × Nat)} {A0 : Nat → Addr} {a n : Nat} {aty : ArrayType} {i : Int32} (hd : decode bytes pc = .ok (.newarray aty, 2)) (hc : Cx p s m meth c Z own bytes maxL ret mn) (wa : (Cond.arrayClass (newarray.typeOf aty)).before a0 Z = true) (ha : arrs[a]? = some (newarray.typeOf aty, n)) (hi : i.toInt = (n : Int)) (hdef : defaultValue (newarray.typeOf aty) = ae zs (a + 1) 0 (newarray.typeOf aty)) (hnr : Ls.all (nrS fun k => k != a + 1) = true ∧ St.all (nrV fun k => k != a + 1) = true) (hAE : AE h0 A0 A a) (hn : n0 ≤ h0.size) (hR : n * 8 ≤ 536870912 ∧ cells + 1 ≤ R.cells ∧ slots + n ≤ R.slots)
    (κ : ∀ A' : Nat → Addr, AE h0 A0 A' (a + 1) → OkR p l e R s m args below meth c Z C fs n0 h0 F A' (wK arrs (a + 1) a) (cells + 1) (slots + n) (pc + 2) Ls (.ref (a + 1) :: St) zs t) : OkR p l e R s m args below meth c Z C fs n0 h0 F A (wK arrs a a) cells slots pc Ls (.int i :: St) zs t := by
  intro x' hx T locs rl X W O N f L
  have hnx : i.toNatClampNeg = n := by show i.toInt.toNat = n; omega
  obtain ⟨T', h', cA, X', e', E, Ar, st⟩ := newP X hc.1 hc.2.1 wa rfl (g := mkF m pc rl.toArray (.int i :: St.map (cv A))) rfl (hb hc.2.2.1 hd) rfl (fun q => by rw [Int32.lt_iff_toInt_lt] at q; have : (0 : Int32).toInt = 0 := rfl; omega) (cap := n) (by omega) hR.1 hR.2.1 hR.2.2
  subst e'
  obtain ⟨A', hA'⟩ : ∃ A' : Nat → Addr, A' = fun k => if k = a + 1 then T.heap.size else A k := ⟨_, rfl⟩
  have hA1 : A' (a + 1) = T.heap.size := by rw [hA']; simp
  have hA2 : ∀ k, (k != a + 1) = true → A' k = A k := fun k q => by rw [hA']; simp only []; rw [if_neg (by simpa using q)]
  have hA3 : ∀ k, k ≤ a → A' k = A k := fun k q => hA2 k (by simp; omega)
  have hlt : ∀ k d, wK arrs a a k = some d → A k < T.heap.size := fun k d q => by
    have := W.1 k d q
    rcases d with q' | ⟨ty, n', o⟩
    · exact this.1.lt
    · obtain ⟨cl, a1, -⟩ := this; exact a1.lt
  have hlow : ∀ k d, wK arrs a a k = some d → k ≤ a := fun k d q => by
    cases k with
    | zero => omega
    | succ k => simp only [wK] at q; split at q <;> first | omega | cases q
  have hold : ∀ k d, wK arrs (a + 1) a k = some d → k ≠ a + 1 → wK arrs a a k = some d := fun k d q ne => by
    cases k with
    | zero => exact q
    | succ k =>
      simp only [wK] at q ⊢
      split at q
      · rw [if_pos (by omega)]; exact q
      · cases q
  have W' : Wd Z C fs T'.heap A' (wK arrs (a + 1) a) zs := by
    refine ⟨fun k d q => ?_, fun k k' d d' q q' z => ?_⟩
    · by_cases ek : k = a + 1
      · subst ek
        simp only [wK, Nat.lt_succ_self, if_true, ha, Option.map_some, Option.some.injEq] at q
        subst q
        refine ⟨_, by rw [hA1]; exact Ar, by rw [sz_new]; exact hnx, fun j hj => ?_⟩
        have e1 : aeo zs (a + 1) j (newarray.typeOf aty) none = defaultValue (newarray.typeOf aty) := by rw [hdef]; cases aty <;> rfl
        rw [e1]
        simp [newA, hnx, hj]
      · have hq := hold k d q ek
        have := W.1 k d hq
        have ek' := hA3 k (hlow k d hq)
        rcases d with q' | ⟨ty, n', o⟩
        · refine ⟨by rw [ek']; exact this.1.ext E, fun j n d cd hj => ?_⟩
          have F := this.2 j n d cd hj
          rw [ek']
          have e1 : cv A' (fv zs k j q' cd) = cv A (fv zs k j q' cd) := by
            refine nrV_cv hA2 ?_
            match cd with
            | 0 => rfl
            | 1 => rfl
            | r + 2 =>
              cases k with
              | zero =>
                simp only [wK, Option.some.injEq, Sum.inl.injEq] at hq
                subst hq
                simp only [fv]
                split
                · simp [nrV]; omega
                · rfl
              | succ k => simp only [wK] at hq; split at hq <;> first | cases hq | (rw [Option.map_eq_some_iff] at hq; obtain ⟨_, -, z⟩ := hq; cases z)
          rw [e1]; exact F.ext E
        · obtain ⟨cl, a1, a2, a3⟩ := this
          exact ⟨cl, by rw [ek']; exact a1.ext E, a2, a3⟩
    · by_cases ek : k = a + 1 <;> by_cases ek2 : k' = a + 1
      · omega
      · subst ek
        have := hlt k' d' (hold k' d' q' ek2)
        rw [hA1, hA2 k' (by simpa using ek2)] at z
        have z : @Eq Nat _ _ := z
        have this : @LT.lt Nat _ _ _ := this
        omega
      · subst ek2
        have := hlt k d (hold k d q ek)
        rw [hA1, hA2 k (by simpa using ek)] at z
        have z : @Eq Nat _ _ := z
        have this : @LT.lt Nat _ _ _ := this
        omega
      · rw [hA2 k (by simpa using ek), hA2 k' (by simpa using ek2)] at z
        exact W.2 k k' d d' (hold k d q ek) (hold k' d' q' ek2) z
  have hin : ∀ k d, wK arrs a a k = some d → wK arrs (a + 1) a k = some d := fun k d q => by
    cases k with
    | zero => exact q
    | succ k =>
      simp only [wK] at q ⊢
      split at q
      · rw [if_pos (by omega)]; exact q
      · cases q
  have O' : Out h0 T'.heap A' (wK arrs (a + 1) a) := ⟨Nat.le_trans O.1 E.1, fun b c q z => E.2 _ _ (O.2 b c q fun k d q1 q2 => by
    rw [← hA3 k (hlow k d q1)]; exact z k d (hin k d q1) q2)⟩
  have N' : Nw n0 A' (wK arrs (a + 1) a) := fun k d q1 q2 => by
    by_cases ek : k = a + 1
    · subst ek; rw [hA1]; exact Nat.le_trans hn O.1
    · rw [hA2 k (by simpa using ek)]; exact N k d (hold k d q1 ek) q2
  have hAE' : AE h0 A0 A' (a + 1) := ⟨by rw [hA3 0 (by omega)]; exact hAE.1, fun k k1 k2 => by
    by_cases ek : k = a + 1
    · subst ek; rw [hA1]; exact O.1
    · rw [hA2 k (by simpa using ek)]; exact hAE.2 k k1 (by omega)⟩
  obtain ⟨s₂, o', st2, r⟩ := κ A' hAE' x' hx T' locs rl X' W' O' N' f (nr_ls hA2 hnr.1 L)
  have e2 : List.map (cv A') (.ref (a + 1) :: St) = .ref T.heap.size :: St.map (cv A) := by
    rw [List.map_cons, nr_map hA2 hnr.2]; simp only [cv]; rw [hA1]
  rw [e2] at st2
  exact ⟨s₂, o', st _ st2, r⟩
def uqc (cd j : Nat) : Nat → FS → Bool
  | _, [] => true
  | i, x :: r => (x.2.2 != cd || i == j) && uqc cd j (i + 1) r
theorem uqc_ok {cd j : Nat} : ∀ {fs : FS} {i : Nat}, uqc cd j i fs = true → ∀ j' x, fs[j']? = some x → x.2.2 = cd → i + j' = j
  | [], i, _, j', x, h, _ => by simp at h
  | y :: r, i, hu, j', x, h, e => by
    simp only [uqc, Bool.and_eq_true] at hu
    cases j' with
    | zero =>
      simp at h; subst h
      have := hu.1
      simp [e] at this; omega
    | succ j' =>
      rw [List.getElem?_cons_succ] at h
      have := uqc_ok hu.2 j' x h e
      omega
theorem am_putref {arrs : List (FieldType × Nat)} {a j i : Nat} {n d : String} (hd : decode bytes pc = .ok (.putfield i, 3)) (hc : Cx p s m meth c Z own bytes maxL ret mn) (hF : FsOk Z a0 C fs) (wi : (Cond.instantiable C kk).before a0 Z = true) (hfs : fs[j]? = some (n, d, a + 2)) (hu : uqc (a + 2) j 0 fs = true) (wl : (Cond.fieldLink own i C n d).before a0 Z = true) (hL : Lay1 Z a0 C own mn n d)
    (κ : OkR p l e R s m args below meth c Z C fs n0 h0 F A (wK arrs (a + 1) (a + 1)) cells slots (pc + 3) Ls St zs t) : OkR p l e R s m args below meth c Z C fs n0 h0 F A (wK arrs (a + 1) a) cells slots pc Ls (.ref (a + 1) :: .ref 0 :: St) zs t := by
  intro x' hx T locs rl X W O N f L
  have hk : wK arrs (a + 1) a 0 = some (.inl a) := rfl
  have hO := W.1 0 _ hk
  have Fd := hO.2 j n d (a + 2) hfs
  obtain ⟨hlaid, ⟨ty, hty, -, -, t2⟩, hinj⟩ := hF j n d (a + 2) hfs
  obtain ⟨ty', rfl⟩ := t2 (by omega)
  have hL' : (Cond.lays C C n d).before a0 Z = true ∨ ((Cond.laysFinal C C n d).before a0 Z = true ∧ own = C ∧ meth.name = "<init>") := hL.imp id fun q => ⟨q.1, q.2.1, hc.2.2.2.2.2.2.2.trans q.2.2⟩
  obtain ⟨T', h', X', e', Q, st'⟩ := putF X hc.1 hc.2.1 hc.2.2.2.1 (host := "") (Or.inl wl) Via.refl rfl Fd hO.1 hL' wi (v := .ref (A (a + 1))) hty rfl rfl (g := mkF m pc rl.toArray (.ref (A (a + 1)) :: .ref (A 0) :: St.map (cv A))) rfl rfl (hb hc.2.2.1 hd)
  subst e'
  have hsame : ∀ k d, wK arrs (a + 1) (a + 1) k = some d → k ≠ 0 → wK arrs (a + 1) a k = some d := fun k d q ne => by
    cases k with
    | zero => exact absurd rfl ne
    | succ k => exact q
  have hsame' : ∀ k d, wK arrs (a + 1) a k = some d → k ≠ 0 → wK arrs (a + 1) (a + 1) k = some d := fun k d q ne => by
    cases k with
    | zero => exact absurd rfl ne
    | succ k => exact q
  have W1 : Wd Z C fs T'.heap A (wK arrs (a + 1) (a + 1)) zs := by
    refine ⟨fun k d' q => ?_, fun k k' d d' q q' z => ?_⟩
    · by_cases ek : k = 0
      · subst ek
        simp only [wK, Option.some.injEq] at q
        subst q
        refine ⟨hO.1.wr Q, fun j' n' d' cd' hj' => ?_⟩
        by_cases ej : j' = j
        · subst ej
          rw [hfs] at hj'; cases hj'
          have e1 : cv A (fv zs 0 j' (a + 1) (a + 2)) = .ref (A (a + 1)) := by simp [fv, cv]
          rw [e1]
          exact Fd.same Q
        · obtain ⟨hlaid', ⟨ty', hty', -⟩, -⟩ := hF j' n' d' cd' hj'
          have e1 : fv zs 0 j' (a + 1) cd' = fv zs 0 j' a cd' := by
            match cd', hj' with
            | 0, _ => rfl
            | 1, _ => rfl
            | r + 2, hj' =>
              have : r ≠ a := fun e => ej (by subst e; have := uqc_ok hu j' _ hj' rfl; omega)
              simp only [fv]
              by_cases q : r < a
              · rw [if_pos q, if_pos (by omega)]
              · rw [if_neg q, if_neg (by omega)]
          rw [e1]
          exact (hO.2 j' n' d' cd' hj').other Q (Or.inr (slot_ne hlaid' hlaid (fun q => ej (hinj _ _ _ _ hj' q.symm).symm) hty' hty))
      · have hq := hsame k d' q ek
        have ne : A k ≠ A 0 := fun z => ek (W.2 _ _ _ _ hq hk z)
        have := W.1 k d' hq
        rcases d' with q' | ⟨ty, n', o⟩
        · cases k with
          | zero => exact absurd rfl ek
          | succ k => simp only [wK] at q; split at q <;> first | cases q | (rw [Option.map_eq_some_iff] at q; obtain ⟨_, -, z⟩ := q; cases z)
        · obtain ⟨cl, a1, a2, a3⟩ := this
          exact ⟨cl, a1.other Q ne, a2, a3⟩
    · by_cases e1 : k = 0 <;> by_cases e2 : k' = 0
      · omega
      · subst e1; exact W.2 _ _ _ _ hk (hsame k' d' q' e2) z
      · subst e2; exact W.2 _ _ _ _ (hsame k d q e1) hk z
      · exact W.2 _ _ _ _ (hsame k d q e1) (hsame k' d' q' e2) z
  have O1 := O.write hk rfl Q
  have O' : Out h0 T'.heap A (wK arrs (a + 1) (a + 1)) := ⟨O1.1, fun b c q z => O1.2 b c q fun k d q1 q2 => by
    by_cases ek : k = 0
    · subst ek; exact z 0 _ rfl rfl
    · exact z k d (hsame' k d q1 ek) q2⟩
  have N' : Nw n0 A (wK arrs (a + 1) (a + 1)) := fun k d q1 q2 => by
    by_cases ek : k = 0
    · subst ek; exact N 0 _ hk rfl
    · exact N k d (hsame k d q1 ek) q2
  obtain ⟨s₂, o', st2, r⟩ := κ x' hx T' _ rl X' W1 O' N' (Fr.snoc X' f (N 0 _ hk rfl)) L
  exact ⟨s₂, o', st' _ st2, r⟩
/-- the law's world before and after the object is made; w0: what it only reads -/
def wN (w0 : Nat → Option CD) : Nat → Option CD
  | 0 => some (.inl 0)
  | k + 1 => w0 (k + 1)
def wF (arrs : List (FieldType × Nat)) (w0 : Nat → Option CD) (k : Nat) : Option CD := if k ≤ arrs.length then wK arrs arrs.length arrs.length k else w0 k
def Rd (w0 : Nat → Option CD) (mm : Nat) : Prop := ∀ k d, w0 k = some d → wrb d = false ∧ mm < k
theorem am_new {nn i mm : Nat} (hd : decode bytes pc = .ok (.new i, 3)) (hc : Cx p s m meth c Z own bytes maxL ret mn) (hF : FsOk Z a0 C fs) (wl : (Cond.classLink own i C).before a0 Z = true) (wi : (Cond.instantiable C nn).before a0 Z = true) (wz : (Cond.initialized C).before a0 Z = true) (hw0 : Rd w mm) (hnr : Ls.all (nrS fun k => k != 0) = true ∧ St.all (nrV fun k => k != 0) = true) (hn : n0 ≤ h0.size) (hR : cells + 1 ≤ R.cells ∧ slots + nn ≤ R.slots)
    (κ : ∀ A' : Nat → Addr, (∀ k, k ≠ 0 → A' k = A k) → OkR p l e R s m args below meth c Z C fs n0 h0 F A' (wN w) (cells + 1) (slots + nn) (pc + 3) Ls (.ref 0 :: St) zs t) : OkR p l e R s m args below meth c Z C fs n0 h0 F A w cells slots pc Ls St σ t := by
  intro x' hx T locs rl X W O N f L
  obtain ⟨T', h', X', e', E, Ex, D, -, st⟩ := newO X hc.1 hc.2.1 hc.2.2.2.1 wl wi wz rfl (g := mkF m pc rl.toArray (St.map (cv A))) rfl (hb hc.2.2.1 hd) hR.1 hR.2
  subst e'
  obtain ⟨A', hA'⟩ : ∃ A' : Nat → Addr, A' = fun k => if k = 0 then T.heap.size else A k := ⟨_, rfl⟩
  have hA1 : A' 0 = T.heap.size := by rw [hA']; simp
  have hA2 : ∀ k, (k != 0) = true → A' k = A k := fun k q => by rw [hA']; simp only []; rw [if_neg (by simpa using q)]
  have hold : ∀ k d, wN w k = some d → k ≠ 0 → w k = some d := fun k d q ne => by
    cases k with
    | zero => exact absurd rfl ne
    | succ k => exact q
  have hlt : ∀ k d, w k = some d → A k < T.heap.size := fun k d q => by
    have := W.1 k d q
    rcases d with q' | ⟨ty, n', o⟩
    · exact this.1.lt
    · obtain ⟨cl, a1, -⟩ := this; exact a1.lt
  have W' : Wd Z C fs T'.heap A' (wN w) zs := by
    refine ⟨fun k d q => ?_, fun k k' d d' q q' z => ?_⟩
    · by_cases ek : k = 0
      · subst ek
        simp only [wN, Option.some.injEq] at q
        subst q
        rw [show CellOk Z C fs T'.heap A' zs 0 (.inl 0) = (Exa Z T'.heap (A' 0) C ∧ ∀ (j : Nat) (n d : String) (cd : Nat), fs[j]? = some (n, d, cd) → Fld Z T'.heap (A' 0) C n d (cv A' (fv zs 0 j 0 cd))) from rfl, hA1]
        refine ⟨Ex, fun j n d cd hj => ?_⟩
        obtain ⟨hlaid, ⟨ty, hty, t0, t1, t2⟩, -⟩ := hF j n d cd hj
        have := D hlaid hty
        match cd, t0, t1, t2 with
        | 0, t0, _, _ => have e := t0 rfl; subst e; exact this
        | 1, _, t1, _ => have e := t1 rfl; subst e; exact this
        | r + 2, _, _, t2 => obtain ⟨ty', rfl⟩ := t2 (by omega); exact this
      · have hq := hold k d q ek
        have := W.1 k d hq
        have e1 := hA2 k (by simpa using ek)
        rcases d with q' | ⟨ty, n', o⟩
        · have := (hw0 k _ hq).1; cases this
        · obtain ⟨cl, a1, a2, a3⟩ := this
          cases o with
          | none => have := (hw0 k _ hq).1; cases this
          | some f0 => exact ⟨cl, by rw [e1]; exact a1.ext E, a2, a3⟩
    · by_cases e1 : k = 0 <;> by_cases e2 : k' = 0
      · omega
      · subst e1
        have := hlt k' d' (hold k' d' q' e2)
        rw [hA1, hA2 k' (by simpa using e2)] at z
        have z : @Eq Nat _ _ := z
        have this : @LT.lt Nat _ _ _ := this
        omega
      · subst e2
        have := hlt k d (hold k d q e1)
        rw [hA1, hA2 k (by simpa using e1)] at z
        have z : @Eq Nat _ _ := z
        have this : @LT.lt Nat _ _ _ := this
        omega
      · rw [hA2 k (by simpa using e1), hA2 k' (by simpa using e2)] at z
        exact W.2 k k' d d' (hold k d q e1) (hold k' d' q' e2) z
  have O' : Out h0 T'.heap A' (wN w) := ⟨Nat.le_trans O.1 E.1, fun b c q z => E.2 _ _ (O.2 b c q fun k d q1 q2 => by have := (hw0 k d q1).1; rw [q2] at this; cases this)⟩
  have N' : Nw n0 A' (wN w) := fun k d q1 q2 => by
    by_cases ek : k = 0
    · subst ek; rw [hA1]; exact Nat.le_trans hn O.1
    · have := (hw0 k d (hold k d q1 ek)).1; rw [q2] at this; cases this
  obtain ⟨s₂, o', st2, r⟩ := κ A' (fun k q => hA2 k (by simpa using q)) x' hx T' locs rl X' W' O' N' f (nr_ls hA2 hnr.1 L)
  have e2 : List.map (cv A') (.ref 0 :: St) = .ref T.heap.size :: St.map (cv A) := by
    rw [List.map_cons, nr_map hA2 hnr.2]; simp only [cv]; rw [hA1]
  rw [e2] at st2
  exact ⟨s₂, o', st _ st2, r⟩
def ConI (l : Launch) (Z : State) (C : String) (fs : FS) (arrs : List (FieldType × Nat)) (y : MethodName) (bytes : ByteArray) (maxL : Nat) (rm : Room) (as : List Value) (σ' : Sg) : Prop :=
  ∀ (A : Nat → Addr) (n0 : Nat) (h : Heap) (ws : List Jvm.Cond), Wd Z C fs h A (wK arrs 0 0) zs → Nw n0 A (wK arrs 0 0) → n0 ≤ h.size →
    MetFree l y (head1 (Jvm.Cond.code y bytes maxL none :: ws) rm) (fun a U => a = ((.ref 0 :: as).map (cv A)).toArray ∧ Z.Warmed39 U.vm ∧ U.heap = h) (fun _ _ _ _ _ => True) (fun _ U o U' => ∃ v' L, o = .returned v' ∧ (FI Z C fs arrs A h σ' v' U'.heap ∧ Fr n0 L) ∧ FrameEnd U o U' L rm.cells rm.slots)
theorem am_conI {arrs : List (FieldType × Nat)} {y : MethodName} {rm : Room} {as : List Value} {t : Option Sg} (pn : plainName y.cls = true)
    (H : ∀ (p : Program) (e : Env) (s : State) (m : MethodId) (below : List Frame) (meth : Method) (c : Code) (A : Nat → Addr) (n0 : Nat) (h : Heap), n0 ≤ h.size → Cx p s m meth c Z y.cls bytes maxL none y.name → OkR p l e rm s m ((.ref 0 :: as).map (cv A)).toArray below meth c Z C fs n0 h (FI Z C fs arrs A h) A (wK arrs 0 0) 0 0 0 (entL (.ref 0 :: as) maxL) [] zs t) :
    ∀ x, t = some x → ConI l Z C fs arrs y bytes maxL rm as x :=
  fun x ht A n0 h ws W N hn => am_met pn ht W N fun p e s m below meth c hc => H p e s m below meth c A n0 h hn hc
def LkI (Z : State) (a0 : Array Value) (own : String) (i : Nat) (y : MethodName) (b : ByteArray) (mL : Nat) : Prop := (Cond.methodLink own i y).before a0 Z = true ∧ (Cond.instanceMethod y).before a0 Z = true ∧ (Cond.code y b mL none).before a0 Z = true ∧ (Cond.initialized y.cls).before a0 Z = true ∧ notMH y ∧ y.name = "<init>"
theorem am_ctor {arrs : List (FieldType × Nat)} {y : MethodName} {b : ByteArray} {mL i : Nat} {rm : Room} {argsL rest : List Value} {u : Option Sg} {K : Sg → Option α} {W0 : Nat} (hl : LkI Z a0 own i y b mL) (hd : decode bytes pc = .ok (.invokespecial i, 3)) (hc : Cx p s m meth c Z own bytes maxL ret mn) (hw0 : Rd w arrs.length) (hst : St = argsL.reverse ++ .ref 0 :: rest) (har : arity y.desc argsL.length = true)
    (hcon : ∀ x, u = some x → ConI l Z C fs arrs y b mL rm argsL x) (hnr : Ls.all (nrS fun k => k == 0 || decide (arrs.length < k)) = true ∧ rest.all (nrV fun k => k == 0 || decide (arrs.length < k)) = true) (hm : Ls.length = maxL) (hn : n0 ≤ h0.size) (hrm : rm.frames + 1 ≤ R.frames ∧ W0 + (mL + 11) + rm.locals ≤ R.locals ∧ catS rest ≤ W0 ∧ cells + rm.cells ≤ R.cells ∧ slots + rm.slots ≤ R.slots)
    (κ : ∀ (A' : Nat → Addr) (x : Sg), u = some x → OkR p l e R s m args below meth c Z C fs n0 h0 F A' (wF arrs w) (cells + rm.cells) (slots + rm.slots) (pc + 3) Ls rest x (K x)) : OkR p l e R s m args below meth c Z C fs n0 h0 F A (wN w) cells slots pc Ls St zs (u.bind K) := by
  subst hst
  intro x' hx T locs rl X W O N f L
  obtain ⟨r1, r2, r3, r4, r5⟩ := hrm
  cases hu : u with
  | none => rw [hu] at hx; cases hx
  | some y0 =>
    rw [hu] at hx
    have hx' : K y0 = some x' := hx
    have hS : SubW (wK arrs 0 0) (wN w) := by
      refine ⟨fun k d q => ?_, fun k d q => ?_⟩
      · cases k with
        | zero => exact q
        | succ k => simp only [wK] at q; split at q <;> first | omega | cases q
      · cases k with
        | zero => exact Or.inl q
        | succ k => exact Or.inr (hw0 _ _ q).1
    have hnT : n0 ≤ T.heap.size := Nat.le_trans hn O.1
    have hM := hcon y0 hu A n0 T.heap [] (hS.wd W) (fun k d q1 q2 => N k d (hS.1 k d q1) q2) hnT
    have hB := backOf (h := T.heap) (Q := fun v' h' L => FI Z C fs arrs A T.heap y0 v' h' ∧ Fr n0 L) (W := W0) (R := R) (p := p) (e := e) (below := below) (s := s) (args := args) (len := 3) hM hc.2.1 hl.2.2.1 hl.2.2.2.1 r1 r2
    have hsz : (mkF m pc rl.toArray (List.map (cv A) (argsL.reverse ++ .ref 0 :: rest))).locals.size = c.maxLocals := by show rl.toArray.size = _; rw [List.size_toArray, L.1, hm, hc.2.2.2.2.1]
    obtain ⟨v, _, ⟨T1, L1, k1, n1⟩, -, X1, ⟨Lc, hQ, l1, c1, s1⟩, st⟩ := X.specialBack hc.1 (y := y) hl.2.2.2.2.2 hc.2.2.2.1 (mv hc.2.1 hl.1) (mv hc.2.1 hl.2.1) (mv hc.2.1 hl.2.2.1) hl.2.2.2.2.1 hB (g := mkF m pc rl.toArray (List.map (cv A) (argsL.reverse ++ .ref 0 :: rest))) rfl hsz (Steps.refl _) (a := A 0) (argsL := argsL.map (cv A)) (rest := rest.map (cv A)) (arity_ok har (by simp)) (by simp [cv]) (by show 2 * 0 + _ ≤ W0; rw [catS_map]; omega) (hb hc.2.2.1 hd) (fun _ _ => ⟨by simp [cv], rfl, by dsimp only [Pt.cells]; omega, by dsimp only [Pt.slots]; omega⟩)
    dsimp only [Pt.U, Pt.locs, Pt.cells, Pt.slots] at X1 l1 c1 s1 st hQ
    subst l1 c1 s1
    obtain ⟨⟨rfl, B, hAE, W1, z1, z2⟩, N1⟩ := hQ
    obtain ⟨A', hA'⟩ : ∃ A' : Nat → Addr, A' = fun k => if k ≤ arrs.length then B k else A k := ⟨_, rfl⟩
    have hA1 : ∀ k, k ≤ arrs.length → A' k = B k := fun k q => by rw [hA']; simp only []; rw [if_pos q]
    have hA2 : ∀ k, arrs.length < k → A' k = A k := fun k q => by rw [hA']; simp only []; rw [if_neg (by omega)]
    have hA3 : ∀ k, (k == 0 || decide (arrs.length < k)) = true → A' k = A k := fun k q => by
      simp only [Bool.or_eq_true, beq_iff_eq, decide_eq_true_eq] at q
      rcases q with rfl | q
      · rw [hA1 0 (by omega)]; exact hAE.1
      · exact hA2 k q
    have hk0 : wN w 0 = some (.inl 0) := rfl
    have hconst : ∀ k d, arrs.length < k → w k = some d → wN w k = some d := fun k d q1 q2 => by
      cases k with
      | zero => omega
      | succ k => exact q2
    have hsmall : ∀ k d, wK arrs arrs.length arrs.length k = some d → k ≤ arrs.length := fun k d q => by
      cases k with
      | zero => omega
      | succ k => simp only [wK] at q; split at q <;> first | omega | cases q
    have hcell : ∀ k d, w k = some d → ∃ cl : Cell, T.heap[A k]? = some cl ∧ T1.heap[A k]? = some cl := fun k d q => by
      have hr := hw0 k d q
      have q' := hconst k d hr.2 q
      rcases d with q' | ⟨ty, n', o⟩
      · cases hr.1
      · obtain ⟨cl, a1, -⟩ := W.1 k _ q'
        exact ⟨cl, a1.1, z2 _ _ a1.1 fun e => by have := W.2 _ _ _ _ q' hk0 e; omega⟩
    have W' : Wd Z C fs T1.heap A' (wF arrs w) y0 := by
      refine ⟨fun k d q => ?_, fun k k' d d' q q' z => ?_⟩
      · unfold wF at q
        split at q
        · rename_i hle
          have := W1.1 k d q
          rcases d with q' | ⟨ty, n', o⟩
          · rw [show CellOk Z C fs T1.heap A' y0 k (.inl q') = (Exa Z T1.heap (A' k) C ∧ ∀ (j : Nat) (n d : String) (cd : Nat), fs[j]? = some (n, d, cd) → Fld Z T1.heap (A' k) C n d (cv A' (fv y0 k j q' cd))) from rfl, hA1 k hle]
            refine ⟨this.1, fun j n d cd hj => ?_⟩
            have e1 : cv A' (fv y0 k j q' cd) = cv B (fv y0 k j q' cd) := by
              refine nrV_cv (ok := fun k => decide (k ≤ arrs.length)) (fun k q => hA1 k (of_decide_eq_true q)) ?_
              match cd with
              | 0 => rfl
              | 1 => rfl
              | r + 2 =>
                cases k with
                | zero =>
                  simp only [wK, Option.some.injEq, Sum.inl.injEq] at q
                  subst q
                  simp only [fv]
                  split
                  · simp [nrV]; omega
                  · rfl
                | succ k => simp only [wK] at q; split at q <;> first | cases q | (rw [Option.map_eq_some_iff] at q; obtain ⟨_, -, z⟩ := q; cases z)
            rw [e1]; exact this.2 j n d cd hj
          · obtain ⟨cl, a1, a2, a3⟩ := this
            exact ⟨cl, by rw [hA1 k hle]; exact a1, a2, a3⟩
        · rename_i hle
          have hr := hw0 k d q
          obtain ⟨cl, b1, b2⟩ := hcell k d q
          have := W.1 k d (hconst k d hr.2 q)
          rcases d with q' | ⟨ty, n', o⟩
          · cases hr.1
          · obtain ⟨cl', a1, a2, a3⟩ := this
            cases o with
            | none => cases hr.1
            | some f0 =>
              have := a1.1
              rw [b1] at this; cases this
              exact ⟨cl, by rw [hA2 k hr.2]; exact ⟨b2, a1.2⟩, a2, a3⟩
      · have hlo : ∀ k d, wF arrs w k = some d → (k ≤ arrs.length ∧ wK arrs arrs.length arrs.length k = some d) ∨ (arrs.length < k ∧ w k = some d) := fun k d q => by
          unfold wF at q
          split at q
          · exact Or.inl ⟨by assumption, q⟩
          · exact Or.inr ⟨by omega, q⟩
        have hmix : ∀ (k k' : Nat) (d d' : CD), k ≤ arrs.length → arrs.length < k' → w k' = some d' → B k ≠ A k' := fun k k' d d' q1 q2 q3 e => by
          obtain ⟨cl, b1, -⟩ := hcell k' d' q3
          have hsz := (Array.getElem?_eq_some_iff.mp b1).1
          cases k with
          | zero =>
            have := W.2 _ _ _ _ hk0 (hconst k' d' q2 q3) (hAE.1.symm.trans e)
            omega
          | succ k =>
            have := hAE.2 (k + 1) (by omega) q1
            have e : @Eq Nat _ _ := e
            have hsz : @LT.lt Nat _ _ _ := hsz
            omega
        rcases hlo k d q with ⟨q1, q2⟩ | ⟨q1, q2⟩ <;> rcases hlo k' d' q' with ⟨q3, q4⟩ | ⟨q3, q4⟩
        · rw [hA1 k q1, hA1 k' q3] at z; exact W1.2 _ _ _ _ q2 q4 z
        · rw [hA1 k q1, hA2 k' q3] at z; exact absurd z (hmix k k' d d' q1 q3 q4)
        · rw [hA2 k q1, hA1 k' q3] at z; exact absurd z.symm (hmix k' k d' d q3 q1 q2)
        · rw [hA2 k q1, hA2 k' q3] at z; exact W.2 _ _ _ _ (hconst k d q1 q2) (hconst k' d' q3 q4) z
    have O' : Out h0 T1.heap A' (wF arrs w) := ⟨Nat.le_trans O.1 z1, fun b c q z => by
      have hb0 : A 0 ≠ b := fun e => z 0 (.inl arrs.length) rfl rfl (by rw [hA1 0 (by omega), hAE.1]; exact e)
      refine z2 b c (O.2 b c q fun k d q1 q2 => ?_) hb0.symm
      cases k with
      | zero => exact hb0
      | succ k => have := (hw0 _ _ (show w (k + 1) = some d from q1)).1; rw [q2] at this; cases this⟩
    have N' : Nw n0 A' (wF arrs w) := fun k d q1 q2 => by
      unfold wF at q1
      split at q1
      · rename_i hle
        rw [hA1 k hle]
        cases k with
        | zero => rw [hAE.1]; exact N 0 _ hk0 rfl
        | succ k => exact Nat.le_trans hnT (hAE.2 (k + 1) (by omega) hle)
      · have := (hw0 k d q1).1; rw [q2] at this; cases this
    obtain ⟨s₂, o', st2, r⟩ := κ A' y0 hu x' hx' T1 _ rl X1 W' O' N' (Fr.app f N1) (nr_ls hA3 hnr.1 L)
    rw [nr_map hA3 hnr.2] at st2
    exact ⟨s₂, o', st.trans st2, r⟩
end AM
section AM6
variable {p : Program} {l : Launch} {e : Env} {R : Room} {s : State} {m : MethodId} {args : Array Value} {below : List Frame} {meth : Method} {c : Code} {Z : State} {a0 : Array Value} {C own : String} {bytes : ByteArray} {maxL : Nat} {ret : Option FieldType} {mn : String} {fs : FS} {fl pfl : List (Nat × Nat)} {kI : List (Nat × Int32)} {kJ : List (Nat × Int64)} {n0 kk : Nat} {h0 : Heap} {α : Type} {F : α → Option Value → Heap → Prop} {A : Nat → Addr} {w : Nat → Option CD} {cells slots pc : Nat} {Ls Ls' : List Slot} {St St' : List Value} {σ σ' : Sg} {t : Option α}
def fI (r : Int32 × Sg) : Option Value × Sg := (some (.int r.1), r.2)
def fJ (r : Int64 × Sg) : Option Value × Sg := (some (.long r.1), r.2)
def fV (r : Sg) : Option Value × Sg := (none, r)
def FL (r : Int32 × Sg) (v : Option Value) (_ : Heap) : Prop := v = some (.int r.1)
theorem am_callP_I {y : MethodName} {b : ByteArray} {mL i : Nat} {rt : Option FieldType} {rm : Room} {wc : Nat → Option CD} {argsL rest : List Value} {u : Option (Int32 × Sg)} {K : (Int32 × Sg) → Option α} {W0 : Nat} {k q : Nat} (hk : wc k = some (.inl q)) (hl : LkP Z a0 own i y b mL rt) (hyc : y.cls = C) (wi : (Cond.instantiable C kk).before a0 Z = true) (hd : decode bytes pc = .ok (.invokevirtual i, 3)) (hc : Cx p s m meth c Z own bytes maxL ret mn) (hS : SubW wc w) (hst : St = argsL.reverse ++ .ref k :: rest) (har : arity y.desc argsL.length = true)
    (hcon : ∀ x, u = some x → Con l Z C fs y b mL rt rm wc (.ref k :: argsL) σ (fI x).1 (fI x).2) (hm : Ls.length = maxL) (hrm : rm.frames + 1 ≤ R.frames ∧ W0 + (mL + 11) + rm.locals ≤ R.locals ∧ catS rest ≤ W0 ∧ rm.cells = 0 ∧ rm.slots = 0 ∧ cells ≤ R.cells ∧ slots ≤ R.slots)
    (κ : ∀ x, u = some x → OkR p l e R s m args below meth c Z C fs n0 h0 F A w cells slots (pc + 3) Ls (.int x.1 :: rest) x.2 (K x)) : OkR p l e R s m args below meth c Z C fs n0 h0 F A w cells slots pc Ls St σ (u.bind K) :=
  am_callP (g := fI) hk hl hyc wi hd hc hS hst har hcon hm hrm κ
theorem am_callP_J {y : MethodName} {b : ByteArray} {mL i : Nat} {rt : Option FieldType} {rm : Room} {wc : Nat → Option CD} {argsL rest : List Value} {u : Option (Int64 × Sg)} {K : (Int64 × Sg) → Option α} {W0 : Nat} {k q : Nat} (hk : wc k = some (.inl q)) (hl : LkP Z a0 own i y b mL rt) (hyc : y.cls = C) (wi : (Cond.instantiable C kk).before a0 Z = true) (hd : decode bytes pc = .ok (.invokevirtual i, 3)) (hc : Cx p s m meth c Z own bytes maxL ret mn) (hS : SubW wc w) (hst : St = argsL.reverse ++ .ref k :: rest) (har : arity y.desc argsL.length = true)
    (hcon : ∀ x, u = some x → Con l Z C fs y b mL rt rm wc (.ref k :: argsL) σ (fJ x).1 (fJ x).2) (hm : Ls.length = maxL) (hrm : rm.frames + 1 ≤ R.frames ∧ W0 + (mL + 11) + rm.locals ≤ R.locals ∧ catS rest ≤ W0 ∧ rm.cells = 0 ∧ rm.slots = 0 ∧ cells ≤ R.cells ∧ slots ≤ R.slots)
    (κ : ∀ x, u = some x → OkR p l e R s m args below meth c Z C fs n0 h0 F A w cells slots (pc + 3) Ls (.long x.1 :: rest) x.2 (K x)) : OkR p l e R s m args below meth c Z C fs n0 h0 F A w cells slots pc Ls St σ (u.bind K) :=
  am_callP (g := fJ) hk hl hyc wi hd hc hS hst har hcon hm hrm κ
theorem am_callP_V {y : MethodName} {b : ByteArray} {mL i : Nat} {rt : Option FieldType} {rm : Room} {wc : Nat → Option CD} {argsL rest : List Value} {u : Option Sg} {K : Sg → Option α} {W0 : Nat} {k q : Nat} (hk : wc k = some (.inl q)) (hl : LkP Z a0 own i y b mL rt) (hyc : y.cls = C) (wi : (Cond.instantiable C kk).before a0 Z = true) (hd : decode bytes pc = .ok (.invokevirtual i, 3)) (hc : Cx p s m meth c Z own bytes maxL ret mn) (hS : SubW wc w) (hst : St = argsL.reverse ++ .ref k :: rest) (har : arity y.desc argsL.length = true)
    (hcon : ∀ x, u = some x → Con l Z C fs y b mL rt rm wc (.ref k :: argsL) σ (fV x).1 (fV x).2) (hm : Ls.length = maxL) (hrm : rm.frames + 1 ≤ R.frames ∧ W0 + (mL + 11) + rm.locals ≤ R.locals ∧ catS rest ≤ W0 ∧ rm.cells = 0 ∧ rm.slots = 0 ∧ cells ≤ R.cells ∧ slots ≤ R.slots)
    (κ : ∀ x, u = some x → OkR p l e R s m args below meth c Z C fs n0 h0 F A w cells slots (pc + 3) Ls (rest) x (K x)) : OkR p l e R s m args below meth c Z C fs n0 h0 F A w cells slots pc Ls St σ (u.bind K) :=
  am_callP (g := fV) hk hl hyc wi hd hc hS hst har hcon hm hrm κ
theorem am_callV_I {y : MethodName} {b : ByteArray} {mL i : Nat} {rt : Option FieldType} {rm : Room} {wc : Nat → Option CD} {argsL rest : List Value} {u : Option (Int32 × Sg)} {K : (Int32 × Sg) → Option α} {W0 : Nat} {k q : Nat} (hk : wc k = some (.inl q)) (hl : LkV Z a0 own i y b mL rt) (hyc : y.cls = C) (hd : decode bytes pc = .ok (.invokevirtual i, 3)) (hc : Cx p s m meth c Z own bytes maxL ret mn) (hS : SubW wc w) (hst : St = argsL.reverse ++ .ref k :: rest) (har : arity y.desc argsL.length = true)
    (hcon : ∀ x, u = some x → Con l Z C fs y b mL rt rm wc (.ref k :: argsL) σ (fI x).1 (fI x).2) (hm : Ls.length = maxL) (hrm : rm.frames + 1 ≤ R.frames ∧ W0 + (mL + 11) + rm.locals ≤ R.locals ∧ catS rest ≤ W0 ∧ rm.cells = 0 ∧ rm.slots = 0 ∧ cells ≤ R.cells ∧ slots ≤ R.slots)
    (κ : ∀ x, u = some x → OkR p l e R s m args below meth c Z C fs n0 h0 F A w cells slots (pc + 3) Ls (.int x.1 :: rest) x.2 (K x)) : OkR p l e R s m args below meth c Z C fs n0 h0 F A w cells slots pc Ls St σ (u.bind K) :=
  am_callV (g := fI) hk hl hyc hd hc hS hst har hcon hm hrm κ
theorem am_callV_J {y : MethodName} {b : ByteArray} {mL i : Nat} {rt : Option FieldType} {rm : Room} {wc : Nat → Option CD} {argsL rest : List Value} {u : Option (Int64 × Sg)} {K : (Int64 × Sg) → Option α} {W0 : Nat} {k q : Nat} (hk : wc k = some (.inl q)) (hl : LkV Z a0 own i y b mL rt) (hyc : y.cls = C) (hd : decode bytes pc = .ok (.invokevirtual i, 3)) (hc : Cx p s m meth c Z own bytes maxL ret mn) (hS : SubW wc w) (hst : St = argsL.reverse ++ .ref k :: rest) (har : arity y.desc argsL.length = true)
    (hcon : ∀ x, u = some x → Con l Z C fs y b mL rt rm wc (.ref k :: argsL) σ (fJ x).1 (fJ x).2) (hm : Ls.length = maxL) (hrm : rm.frames + 1 ≤ R.frames ∧ W0 + (mL + 11) + rm.locals ≤ R.locals ∧ catS rest ≤ W0 ∧ rm.cells = 0 ∧ rm.slots = 0 ∧ cells ≤ R.cells ∧ slots ≤ R.slots)
    (κ : ∀ x, u = some x → OkR p l e R s m args below meth c Z C fs n0 h0 F A w cells slots (pc + 3) Ls (.long x.1 :: rest) x.2 (K x)) : OkR p l e R s m args below meth c Z C fs n0 h0 F A w cells slots pc Ls St σ (u.bind K) :=
  am_callV (g := fJ) hk hl hyc hd hc hS hst har hcon hm hrm κ
theorem am_callV_V {y : MethodName} {b : ByteArray} {mL i : Nat} {rt : Option FieldType} {rm : Room} {wc : Nat → Option CD} {argsL rest : List Value} {u : Option Sg} {K : Sg → Option α} {W0 : Nat} {k q : Nat} (hk : wc k = some (.inl q)) (hl : LkV Z a0 own i y b mL rt) (hyc : y.cls = C) (hd : decode bytes pc = .ok (.invokevirtual i, 3)) (hc : Cx p s m meth c Z own bytes maxL ret mn) (hS : SubW wc w) (hst : St = argsL.reverse ++ .ref k :: rest) (har : arity y.desc argsL.length = true)
    (hcon : ∀ x, u = some x → Con l Z C fs y b mL rt rm wc (.ref k :: argsL) σ (fV x).1 (fV x).2) (hm : Ls.length = maxL) (hrm : rm.frames + 1 ≤ R.frames ∧ W0 + (mL + 11) + rm.locals ≤ R.locals ∧ catS rest ≤ W0 ∧ rm.cells = 0 ∧ rm.slots = 0 ∧ cells ≤ R.cells ∧ slots ≤ R.slots)
    (κ : ∀ x, u = some x → OkR p l e R s m args below meth c Z C fs n0 h0 F A w cells slots (pc + 3) Ls (rest) x (K x)) : OkR p l e R s m args below meth c Z C fs n0 h0 F A w cells slots pc Ls St σ (u.bind K) :=
  am_callV (g := fV) hk hl hyc hd hc hS hst har hcon hm hrm κ
theorem am_callS_I {y : MethodName} {b : ByteArray} {mL i : Nat} {rt : Option FieldType} {rm : Room} {wc : Nat → Option CD} {argsL rest : List Value} {u : Option (Int32 × Sg)} {K : (Int32 × Sg) → Option α} {W0 : Nat} (hl : LkS Z a0 own i y b mL rt) (hd : decode bytes pc = .ok (.invokestatic i, 3)) (hc : Cx p s m meth c Z own bytes maxL ret mn) (hS : SubW wc w) (hst : St = argsL.reverse ++ rest) (har : arity y.desc argsL.length = true)
    (hcon : ∀ x, u = some x → Con l Z C fs y b mL rt rm wc argsL σ (fI x).1 (fI x).2) (hm : Ls.length = maxL) (hrm : rm.frames + 1 ≤ R.frames ∧ W0 + (mL + 11) + rm.locals ≤ R.locals ∧ catS rest ≤ W0 ∧ rm.cells = 0 ∧ rm.slots = 0 ∧ cells ≤ R.cells ∧ slots ≤ R.slots)
    (κ : ∀ x, u = some x → OkR p l e R s m args below meth c Z C fs n0 h0 F A w cells slots (pc + 3) Ls (.int x.1 :: rest) x.2 (K x)) : OkR p l e R s m args below meth c Z C fs n0 h0 F A w cells slots pc Ls St σ (u.bind K) :=
  am_callS (g := fI) hl hd hc hS hst har hcon hm hrm κ
theorem am_callS_J {y : MethodName} {b : ByteArray} {mL i : Nat} {rt : Option FieldType} {rm : Room} {wc : Nat → Option CD} {argsL rest : List Value} {u : Option (Int64 × Sg)} {K : (Int64 × Sg) → Option α} {W0 : Nat} (hl : LkS Z a0 own i y b mL rt) (hd : decode bytes pc = .ok (.invokestatic i, 3)) (hc : Cx p s m meth c Z own bytes maxL ret mn) (hS : SubW wc w) (hst : St = argsL.reverse ++ rest) (har : arity y.desc argsL.length = true)
    (hcon : ∀ x, u = some x → Con l Z C fs y b mL rt rm wc argsL σ (fJ x).1 (fJ x).2) (hm : Ls.length = maxL) (hrm : rm.frames + 1 ≤ R.frames ∧ W0 + (mL + 11) + rm.locals ≤ R.locals ∧ catS rest ≤ W0 ∧ rm.cells = 0 ∧ rm.slots = 0 ∧ cells ≤ R.cells ∧ slots ≤ R.slots)
    (κ : ∀ x, u = some x → OkR p l e R s m args below meth c Z C fs n0 h0 F A w cells slots (pc + 3) Ls (.long x.1 :: rest) x.2 (K x)) : OkR p l e R s m args below meth c Z C fs n0 h0 F A w cells slots pc Ls St σ (u.bind K) :=
  am_callS (g := fJ) hl hd hc hS hst har hcon hm hrm κ
theorem am_callS_V {y : MethodName} {b : ByteArray} {mL i : Nat} {rt : Option FieldType} {rm : Room} {wc : Nat → Option CD} {argsL rest : List Value} {u : Option Sg} {K : Sg → Option α} {W0 : Nat} (hl : LkS Z a0 own i y b mL rt) (hd : decode bytes pc = .ok (.invokestatic i, 3)) (hc : Cx p s m meth c Z own bytes maxL ret mn) (hS : SubW wc w) (hst : St = argsL.reverse ++ rest) (har : arity y.desc argsL.length = true)
    (hcon : ∀ x, u = some x → Con l Z C fs y b mL rt rm wc argsL σ (fV x).1 (fV x).2) (hm : Ls.length = maxL) (hrm : rm.frames + 1 ≤ R.frames ∧ W0 + (mL + 11) + rm.locals ≤ R.locals ∧ catS rest ≤ W0 ∧ rm.cells = 0 ∧ rm.slots = 0 ∧ cells ≤ R.cells ∧ slots ≤ R.slots)
    (κ : ∀ x, u = some x → OkR p l e R s m args below meth c Z C fs n0 h0 F A w cells slots (pc + 3) Ls (rest) x (K x)) : OkR p l e R s m args below meth c Z C fs n0 h0 F A w cells slots pc Ls St σ (u.bind K) :=
  am_callS (g := fV) hl hd hc hS hst har hcon hm hrm κ
theorem am_tsw {x v : Int32} {vi dflt low high o : Int} {offs : Array Int} {len pcv : Nat} {t1 t2 : Option α} (hd : decode bytes pc = .ok (.tableswitch dflt low high offs, len)) (hin : ¬ (vi < low ∨ vi > high)) (hoff : offs[(vi - low).toNat]? = some o) (ho : 0 ≤ (pc : Int) + o) (hp : ((pc : Int) + o).toNat = pcv) (hv : v.toInt = vi) (hc : Cx p s m meth c Z own bytes maxL ret mn)
    (k1 : x = v → OkR p l e R s m args below meth c Z C fs n0 h0 F A w cells slots pcv Ls St σ t1) (k2 : x.toInt ≠ vi → OkR p l e R s m args below meth c Z C fs n0 h0 F A w cells slots pc Ls (.int x :: St) σ t2) : OkR p l e R s m args below meth c Z C fs n0 h0 F A w cells slots pc Ls (.int x :: St) σ (if x = v then t1 else t2) := by
  by_cases q : x = v
  · rw [if_pos q]
    intro x' hx T locs rl X W O N f L
    obtain ⟨s₂, o', st, r⟩ := k1 q x' hx T locs rl X W O N f L
    subst q
    subst hv
    exact ⟨s₂, o', XS.tswIn X.here hc.1 rfl (pc0 := pc) rfl (hb hc.2.2.1 hd) rfl hin hoff ho hp st, r⟩
  · rw [if_neg q]
    exact k2 fun e => q (Int32.toInt_inj.mp (e.trans hv.symm))
theorem am_tswD {x : Int32} {dflt low high : Int} {offs : Array Int} {len pcv : Nat} (hd : decode bytes pc = .ok (.tableswitch dflt low high offs, len)) (hout : x.toInt < low ∨ x.toInt > high) (ho : 0 ≤ (pc : Int) + dflt) (hp : ((pc : Int) + dflt).toNat = pcv) (hc : Cx p s m meth c Z own bytes maxL ret mn)
    (k1 : OkR p l e R s m args below meth c Z C fs n0 h0 F A w cells slots pcv Ls St σ t) : OkR p l e R s m args below meth c Z C fs n0 h0 F A w cells slots pc Ls (.int x :: St) σ t := by
  intro x' hx T locs rl X W O N f L
  obtain ⟨s₂, o', st, r⟩ := k1 x' hx T locs rl X W O N f L
  exact ⟨s₂, o', XS.tswOut X.here hc.1 rfl (pc0 := pc) rfl (hb hc.2.2.1 hd) rfl hout ho hp st, r⟩
theorem subF {arrs : List (FieldType × Nat)} {w0 : Nat → Option CD} (h : Rd w0 arrs.length) : SubW (wK arrs arrs.length arrs.length) (wF arrs w0) := by
  refine ⟨fun k d q => ?_, fun k d q => ?_⟩
  · unfold wF
    have : k ≤ arrs.length := by
      cases k with
      | zero => omega
      | succ k => simp only [wK] at q; split at q <;> first | omega | cases q
    rw [if_pos this]; exact q
  · unfold wF at q
    split at q
    · exact Or.inl q
    · exact Or.inr (h k d q).1
end AM6
def WH (a0 : Array Value) (Z : State) : Prop := ∀ d ∈ tables_1, d.before a0 Z = true
abbrev fsC : FS := [("gateKind", "[I", 2), ("gateA", "[I", 3), ("gateB", "[I", 4), ("outputSignal", "[I", 5), ("marked", "[Z", 6), ("faultSig", "[I", 7), ("firstDetect", "[I", 8), ("detected", "[Z", 9), ("lane", "[J", 10), ("inputCount", "I", 0), ("gateCap", "I", 0), ("width", "I", 0), ("widthMask", "I", 0), ("gateCount", "I", 0), ("outputCount", "I", 0), ("seed", "I", 0), ("misrMask", "I", 0), ("patternCount", "I", 0), ("lfsr", "I", 0), ("golden", "I", 0)]
abbrev arrsC : List (FieldType × Nat) := [(.int, 32), (.int, 32), (.int, 32), (.int, 8), (.boolean, 40), (.int, 80), (.int, 80), (.boolean, 80), (.long, 40)]
abbrev wC : Nat → Option CD := wK arrsC 9 9
-- fields: 0:gateKind, 1:gateA, 2:gateB, 3:outputSignal, 4:marked, 5:faultSig, 6:firstDetect, 7:detected, 8:lane, 9:inputCount, 10:gateCap, 11:width, 12:widthMask, 13:gateCount, 14:outputCount, 15:seed, 16:misrMask, 17:patternCount, 18:lfsr, 19:golden
def flC : List (Nat × Nat) := [(7, 0), (13, 1), (16, 2), (19, 3), (22, 4), (26, 5), (29, 6), (32, 7), (35, 8), (43, 9), (47, 10), (50, 11), (53, 12), (56, 13), (59, 14), (63, 15), (66, 16), (72, 17), (89, 18), (112, 19)]
def pflC : List (Nat × Nat) := [(56, 13), (59, 14), (63, 15), (66, 16), (72, 17), (89, 18), (112, 19)]
def kIC : List (Nat × Int32) := [(62, 44257), (88, 65535), (170, 46080)]
def kJC : List (Nat × Int64) := [(161, -1)]
def kIL : List (Nat × Int32) := [(7, 2147483647), (65, 44257), (79, 65535), (8, 46080)]
def kJL : List (Nat × Int64) := []
theorem pnC : plainName "LogicBist" = true := by first | (simp [plainName, overriddenIn]; done) | decide +kernel
theorem pnL : plainName "LogicBistOwnLaw" = true := by first | (simp [plainName, overriddenIn]; done) | decide +kernel
section Words
variable {a0 : Array Value} {Z : State}
theorem wiC (hw : WH a0 Z) : (Cond.instantiable "LogicBist" 20).before a0 Z = true := hw _ (List.mem_of_getElem? (i := 9) rfl)
theorem wzC (hw : WH a0 Z) : (Cond.initialized "LogicBist").before a0 Z = true := hw _ (List.mem_of_getElem? (i := 10) rfl)
theorem fsok_1 : ∀ (j j' : Nat) (x x' : String × String × Nat), fsC[j]? = some x → fsC[j']? = some x' → x.1 = x'.1 → j = j' := by
  have key : (fsC.map (·.1)).Nodup := by decide
  intro j j' x x' h h' e
  have h1 : (fsC.map (·.1))[j]? = some x.1 := by rw [List.getElem?_map, h]; rfl
  have h2 : (fsC.map (·.1))[j']? = some x.1 := by rw [List.getElem?_map, h', e]; rfl
  obtain ⟨b1, e1⟩ := List.getElem?_eq_some_iff.mp h1
  obtain ⟨b2, e2⟩ := List.getElem?_eq_some_iff.mp h2
  exact (List.getElem?_inj b1 key).mp (h1.trans h2.symm)
theorem fsokC (hw : WH a0 Z) : FsOk Z a0 "LogicBist" fsC := by
  intro j n d cd h
  refine ⟨?_, ?_, fun j' n' d' cd' h' e => fsok_1 j j' _ _ h h' e⟩
  all_goals (have hm := List.mem_of_getElem? h; simp only [fsC, List.mem_cons, List.not_mem_nil, or_false, Prod.mk.injEq] at hm)
  · rcases hm with ⟨rfl, rfl, rfl⟩ | ⟨rfl, rfl, rfl⟩ | ⟨rfl, rfl, rfl⟩ | ⟨rfl, rfl, rfl⟩ | ⟨rfl, rfl, rfl⟩ | ⟨rfl, rfl, rfl⟩ | ⟨rfl, rfl, rfl⟩ | ⟨rfl, rfl, rfl⟩ | ⟨rfl, rfl, rfl⟩ | ⟨rfl, rfl, rfl⟩ | ⟨rfl, rfl, rfl⟩ | ⟨rfl, rfl, rfl⟩ | ⟨rfl, rfl, rfl⟩ | ⟨rfl, rfl, rfl⟩ | ⟨rfl, rfl, rfl⟩ | ⟨rfl, rfl, rfl⟩ | ⟨rfl, rfl, rfl⟩ | ⟨rfl, rfl, rfl⟩ | ⟨rfl, rfl, rfl⟩ | ⟨rfl, rfl, rfl⟩
    · exact Or.inr (hw _ (List.mem_of_getElem? (i := 19) rfl))
    · exact Or.inr (hw _ (List.mem_of_getElem? (i := 21) rfl))
    · exact Or.inr (hw _ (List.mem_of_getElem? (i := 23) rfl))
    · exact Or.inr (hw _ (List.mem_of_getElem? (i := 25) rfl))
    · exact Or.inr (hw _ (List.mem_of_getElem? (i := 28) rfl))
    · exact Or.inr (hw _ (List.mem_of_getElem? (i := 30) rfl))
    · exact Or.inr (hw _ (List.mem_of_getElem? (i := 32) rfl))
    · exact Or.inr (hw _ (List.mem_of_getElem? (i := 34) rfl))
    · exact Or.inr (hw _ (List.mem_of_getElem? (i := 37) rfl))
    · exact Or.inr (hw _ (List.mem_of_getElem? (i := 43) rfl))
    · exact Or.inr (hw _ (List.mem_of_getElem? (i := 45) rfl))
    · exact Or.inr (hw _ (List.mem_of_getElem? (i := 47) rfl))
    · exact Or.inr (hw _ (List.mem_of_getElem? (i := 49) rfl))
    · exact Or.inl (hw _ (List.mem_of_getElem? (i := 51) rfl))
    · exact Or.inl (hw _ (List.mem_of_getElem? (i := 53) rfl))
    · exact Or.inl (hw _ (List.mem_of_getElem? (i := 56) rfl))
    · exact Or.inl (hw _ (List.mem_of_getElem? (i := 58) rfl))
    · exact Or.inl (hw _ (List.mem_of_getElem? (i := 64) rfl))
    · exact Or.inl (hw _ (List.mem_of_getElem? (i := 66) rfl))
    · exact Or.inl (hw _ (List.mem_of_getElem? (i := 68) rfl))
  · rcases hm with ⟨rfl, rfl, rfl⟩ | ⟨rfl, rfl, rfl⟩ | ⟨rfl, rfl, rfl⟩ | ⟨rfl, rfl, rfl⟩ | ⟨rfl, rfl, rfl⟩ | ⟨rfl, rfl, rfl⟩ | ⟨rfl, rfl, rfl⟩ | ⟨rfl, rfl, rfl⟩ | ⟨rfl, rfl, rfl⟩ | ⟨rfl, rfl, rfl⟩ | ⟨rfl, rfl, rfl⟩ | ⟨rfl, rfl, rfl⟩ | ⟨rfl, rfl, rfl⟩ | ⟨rfl, rfl, rfl⟩ | ⟨rfl, rfl, rfl⟩ | ⟨rfl, rfl, rfl⟩ | ⟨rfl, rfl, rfl⟩ | ⟨rfl, rfl, rfl⟩ | ⟨rfl, rfl, rfl⟩ | ⟨rfl, rfl, rfl⟩
    · exact ⟨.array .int, by decide +kernel, fun q => absurd q (by decide), fun q => absurd q (by decide), fun _ => ⟨_, rfl⟩⟩
    · exact ⟨.array .int, by decide +kernel, fun q => absurd q (by decide), fun q => absurd q (by decide), fun _ => ⟨_, rfl⟩⟩
    · exact ⟨.array .int, by decide +kernel, fun q => absurd q (by decide), fun q => absurd q (by decide), fun _ => ⟨_, rfl⟩⟩
    · exact ⟨.array .int, by decide +kernel, fun q => absurd q (by decide), fun q => absurd q (by decide), fun _ => ⟨_, rfl⟩⟩
    · exact ⟨.array .boolean, by decide +kernel, fun q => absurd q (by decide), fun q => absurd q (by decide), fun _ => ⟨_, rfl⟩⟩
    · exact ⟨.array .int, by decide +kernel, fun q => absurd q (by decide), fun q => absurd q (by decide), fun _ => ⟨_, rfl⟩⟩
    · exact ⟨.array .int, by decide +kernel, fun q => absurd q (by decide), fun q => absurd q (by decide), fun _ => ⟨_, rfl⟩⟩
    · exact ⟨.array .boolean, by decide +kernel, fun q => absurd q (by decide), fun q => absurd q (by decide), fun _ => ⟨_, rfl⟩⟩
    · exact ⟨.array .long, by decide +kernel, fun q => absurd q (by decide), fun q => absurd q (by decide), fun _ => ⟨_, rfl⟩⟩
    · exact ⟨.int, by decide +kernel, fun _ => rfl, fun q => absurd q (by decide), fun q => absurd q (by decide)⟩
    · exact ⟨.int, by decide +kernel, fun _ => rfl, fun q => absurd q (by decide), fun q => absurd q (by decide)⟩
    · exact ⟨.int, by decide +kernel, fun _ => rfl, fun q => absurd q (by decide), fun q => absurd q (by decide)⟩
    · exact ⟨.int, by decide +kernel, fun _ => rfl, fun q => absurd q (by decide), fun q => absurd q (by decide)⟩
    · exact ⟨.int, by decide +kernel, fun _ => rfl, fun q => absurd q (by decide), fun q => absurd q (by decide)⟩
    · exact ⟨.int, by decide +kernel, fun _ => rfl, fun q => absurd q (by decide), fun q => absurd q (by decide)⟩
    · exact ⟨.int, by decide +kernel, fun _ => rfl, fun q => absurd q (by decide), fun q => absurd q (by decide)⟩
    · exact ⟨.int, by decide +kernel, fun _ => rfl, fun q => absurd q (by decide), fun q => absurd q (by decide)⟩
    · exact ⟨.int, by decide +kernel, fun _ => rfl, fun q => absurd q (by decide), fun q => absurd q (by decide)⟩
    · exact ⟨.int, by decide +kernel, fun _ => rfl, fun q => absurd q (by decide), fun q => absurd q (by decide)⟩
    · exact ⟨.int, by decide +kernel, fun _ => rfl, fun q => absurd q (by decide), fun q => absurd q (by decide)⟩
theorem tabC (hw : WH a0 Z) (mn : String) : Tab Z a0 "LogicBist" "LogicBist" mn fsC flC pflC kIC kJC := by
  refine ⟨fun x hx => ?_, fun x hx => ?_, fun x hx => ?_, fun x hx => ?_⟩
  · simp only [flC, List.mem_cons, List.not_mem_nil, or_false] at hx
    rcases hx with rfl | rfl | rfl | rfl | rfl | rfl | rfl | rfl | rfl | rfl | rfl | rfl | rfl | rfl | rfl | rfl | rfl | rfl | rfl | rfl
    · exact ⟨_, _, _, rfl, hw _ (List.mem_of_getElem? (i := 18) rfl)⟩
    · exact ⟨_, _, _, rfl, hw _ (List.mem_of_getElem? (i := 20) rfl)⟩
    · exact ⟨_, _, _, rfl, hw _ (List.mem_of_getElem? (i := 22) rfl)⟩
    · exact ⟨_, _, _, rfl, hw _ (List.mem_of_getElem? (i := 24) rfl)⟩
    · exact ⟨_, _, _, rfl, hw _ (List.mem_of_getElem? (i := 27) rfl)⟩
    · exact ⟨_, _, _, rfl, hw _ (List.mem_of_getElem? (i := 29) rfl)⟩
    · exact ⟨_, _, _, rfl, hw _ (List.mem_of_getElem? (i := 31) rfl)⟩
    · exact ⟨_, _, _, rfl, hw _ (List.mem_of_getElem? (i := 33) rfl)⟩
    · exact ⟨_, _, _, rfl, hw _ (List.mem_of_getElem? (i := 36) rfl)⟩
    · exact ⟨_, _, _, rfl, hw _ (List.mem_of_getElem? (i := 42) rfl)⟩
    · exact ⟨_, _, _, rfl, hw _ (List.mem_of_getElem? (i := 44) rfl)⟩
    · exact ⟨_, _, _, rfl, hw _ (List.mem_of_getElem? (i := 46) rfl)⟩
    · exact ⟨_, _, _, rfl, hw _ (List.mem_of_getElem? (i := 48) rfl)⟩
    · exact ⟨_, _, _, rfl, hw _ (List.mem_of_getElem? (i := 50) rfl)⟩
    · exact ⟨_, _, _, rfl, hw _ (List.mem_of_getElem? (i := 52) rfl)⟩
    · exact ⟨_, _, _, rfl, hw _ (List.mem_of_getElem? (i := 55) rfl)⟩
    · exact ⟨_, _, _, rfl, hw _ (List.mem_of_getElem? (i := 57) rfl)⟩
    · exact ⟨_, _, _, rfl, hw _ (List.mem_of_getElem? (i := 63) rfl)⟩
    · exact ⟨_, _, _, rfl, hw _ (List.mem_of_getElem? (i := 65) rfl)⟩
    · exact ⟨_, _, _, rfl, hw _ (List.mem_of_getElem? (i := 67) rfl)⟩
  · simp only [pflC, List.mem_cons, List.not_mem_nil, or_false] at hx
    rcases hx with rfl | rfl | rfl | rfl | rfl | rfl | rfl
    · exact ⟨_, _, _, rfl, hw _ (List.mem_of_getElem? (i := 50) rfl), Or.inl (hw _ (List.mem_of_getElem? (i := 51) rfl))⟩
    · exact ⟨_, _, _, rfl, hw _ (List.mem_of_getElem? (i := 52) rfl), Or.inl (hw _ (List.mem_of_getElem? (i := 53) rfl))⟩
    · exact ⟨_, _, _, rfl, hw _ (List.mem_of_getElem? (i := 55) rfl), Or.inl (hw _ (List.mem_of_getElem? (i := 56) rfl))⟩
    · exact ⟨_, _, _, rfl, hw _ (List.mem_of_getElem? (i := 57) rfl), Or.inl (hw _ (List.mem_of_getElem? (i := 58) rfl))⟩
    · exact ⟨_, _, _, rfl, hw _ (List.mem_of_getElem? (i := 63) rfl), Or.inl (hw _ (List.mem_of_getElem? (i := 64) rfl))⟩
    · exact ⟨_, _, _, rfl, hw _ (List.mem_of_getElem? (i := 65) rfl), Or.inl (hw _ (List.mem_of_getElem? (i := 66) rfl))⟩
    · exact ⟨_, _, _, rfl, hw _ (List.mem_of_getElem? (i := 67) rfl), Or.inl (hw _ (List.mem_of_getElem? (i := 68) rfl))⟩
  · simp only [kIC, List.mem_cons, List.not_mem_nil, or_false] at hx
    rcases hx with rfl | rfl | rfl
    · exact hw _ (List.mem_of_getElem? (i := 54) rfl)
    · exact hw _ (List.mem_of_getElem? (i := 159) rfl)
    · exact hw _ (List.mem_of_getElem? (i := 223) rfl)
  · simp only [kJC, List.mem_cons, List.not_mem_nil, or_false] at hx
    rcases hx with rfl
    · exact hw _ (List.mem_of_getElem? (i := 178) rfl)
theorem tabI (hw : WH a0 Z) : Tab Z a0 "LogicBist" "LogicBist" "<init>" fsC flC flC kIC kJC := by
  refine ⟨fun x hx => ?_, fun x hx => ?_, fun x hx => ?_, fun x hx => ?_⟩
  · simp only [flC, List.mem_cons, List.not_mem_nil, or_false] at hx
    rcases hx with rfl | rfl | rfl | rfl | rfl | rfl | rfl | rfl | rfl | rfl | rfl | rfl | rfl | rfl | rfl | rfl | rfl | rfl | rfl | rfl
    · exact ⟨_, _, _, rfl, hw _ (List.mem_of_getElem? (i := 18) rfl)⟩
    · exact ⟨_, _, _, rfl, hw _ (List.mem_of_getElem? (i := 20) rfl)⟩
    · exact ⟨_, _, _, rfl, hw _ (List.mem_of_getElem? (i := 22) rfl)⟩
    · exact ⟨_, _, _, rfl, hw _ (List.mem_of_getElem? (i := 24) rfl)⟩
    · exact ⟨_, _, _, rfl, hw _ (List.mem_of_getElem? (i := 27) rfl)⟩
    · exact ⟨_, _, _, rfl, hw _ (List.mem_of_getElem? (i := 29) rfl)⟩
    · exact ⟨_, _, _, rfl, hw _ (List.mem_of_getElem? (i := 31) rfl)⟩
    · exact ⟨_, _, _, rfl, hw _ (List.mem_of_getElem? (i := 33) rfl)⟩
    · exact ⟨_, _, _, rfl, hw _ (List.mem_of_getElem? (i := 36) rfl)⟩
    · exact ⟨_, _, _, rfl, hw _ (List.mem_of_getElem? (i := 42) rfl)⟩
    · exact ⟨_, _, _, rfl, hw _ (List.mem_of_getElem? (i := 44) rfl)⟩
    · exact ⟨_, _, _, rfl, hw _ (List.mem_of_getElem? (i := 46) rfl)⟩
    · exact ⟨_, _, _, rfl, hw _ (List.mem_of_getElem? (i := 48) rfl)⟩
    · exact ⟨_, _, _, rfl, hw _ (List.mem_of_getElem? (i := 50) rfl)⟩
    · exact ⟨_, _, _, rfl, hw _ (List.mem_of_getElem? (i := 52) rfl)⟩
    · exact ⟨_, _, _, rfl, hw _ (List.mem_of_getElem? (i := 55) rfl)⟩
    · exact ⟨_, _, _, rfl, hw _ (List.mem_of_getElem? (i := 57) rfl)⟩
    · exact ⟨_, _, _, rfl, hw _ (List.mem_of_getElem? (i := 63) rfl)⟩
    · exact ⟨_, _, _, rfl, hw _ (List.mem_of_getElem? (i := 65) rfl)⟩
    · exact ⟨_, _, _, rfl, hw _ (List.mem_of_getElem? (i := 67) rfl)⟩
  · simp only [flC, List.mem_cons, List.not_mem_nil, or_false] at hx
    rcases hx with rfl | rfl | rfl | rfl | rfl | rfl | rfl | rfl | rfl | rfl | rfl | rfl | rfl | rfl | rfl | rfl | rfl | rfl | rfl | rfl
    · exact ⟨_, _, _, rfl, hw _ (List.mem_of_getElem? (i := 18) rfl), Or.inr ⟨hw _ (List.mem_of_getElem? (i := 19) rfl), rfl, rfl⟩⟩
    · exact ⟨_, _, _, rfl, hw _ (List.mem_of_getElem? (i := 20) rfl), Or.inr ⟨hw _ (List.mem_of_getElem? (i := 21) rfl), rfl, rfl⟩⟩
    · exact ⟨_, _, _, rfl, hw _ (List.mem_of_getElem? (i := 22) rfl), Or.inr ⟨hw _ (List.mem_of_getElem? (i := 23) rfl), rfl, rfl⟩⟩
    · exact ⟨_, _, _, rfl, hw _ (List.mem_of_getElem? (i := 24) rfl), Or.inr ⟨hw _ (List.mem_of_getElem? (i := 25) rfl), rfl, rfl⟩⟩
    · exact ⟨_, _, _, rfl, hw _ (List.mem_of_getElem? (i := 27) rfl), Or.inr ⟨hw _ (List.mem_of_getElem? (i := 28) rfl), rfl, rfl⟩⟩
    · exact ⟨_, _, _, rfl, hw _ (List.mem_of_getElem? (i := 29) rfl), Or.inr ⟨hw _ (List.mem_of_getElem? (i := 30) rfl), rfl, rfl⟩⟩
    · exact ⟨_, _, _, rfl, hw _ (List.mem_of_getElem? (i := 31) rfl), Or.inr ⟨hw _ (List.mem_of_getElem? (i := 32) rfl), rfl, rfl⟩⟩
    · exact ⟨_, _, _, rfl, hw _ (List.mem_of_getElem? (i := 33) rfl), Or.inr ⟨hw _ (List.mem_of_getElem? (i := 34) rfl), rfl, rfl⟩⟩
    · exact ⟨_, _, _, rfl, hw _ (List.mem_of_getElem? (i := 36) rfl), Or.inr ⟨hw _ (List.mem_of_getElem? (i := 37) rfl), rfl, rfl⟩⟩
    · exact ⟨_, _, _, rfl, hw _ (List.mem_of_getElem? (i := 42) rfl), Or.inr ⟨hw _ (List.mem_of_getElem? (i := 43) rfl), rfl, rfl⟩⟩
    · exact ⟨_, _, _, rfl, hw _ (List.mem_of_getElem? (i := 44) rfl), Or.inr ⟨hw _ (List.mem_of_getElem? (i := 45) rfl), rfl, rfl⟩⟩
    · exact ⟨_, _, _, rfl, hw _ (List.mem_of_getElem? (i := 46) rfl), Or.inr ⟨hw _ (List.mem_of_getElem? (i := 47) rfl), rfl, rfl⟩⟩
    · exact ⟨_, _, _, rfl, hw _ (List.mem_of_getElem? (i := 48) rfl), Or.inr ⟨hw _ (List.mem_of_getElem? (i := 49) rfl), rfl, rfl⟩⟩
    · exact ⟨_, _, _, rfl, hw _ (List.mem_of_getElem? (i := 50) rfl), Or.inl (hw _ (List.mem_of_getElem? (i := 51) rfl))⟩
    · exact ⟨_, _, _, rfl, hw _ (List.mem_of_getElem? (i := 52) rfl), Or.inl (hw _ (List.mem_of_getElem? (i := 53) rfl))⟩
    · exact ⟨_, _, _, rfl, hw _ (List.mem_of_getElem? (i := 55) rfl), Or.inl (hw _ (List.mem_of_getElem? (i := 56) rfl))⟩
    · exact ⟨_, _, _, rfl, hw _ (List.mem_of_getElem? (i := 57) rfl), Or.inl (hw _ (List.mem_of_getElem? (i := 58) rfl))⟩
    · exact ⟨_, _, _, rfl, hw _ (List.mem_of_getElem? (i := 63) rfl), Or.inl (hw _ (List.mem_of_getElem? (i := 64) rfl))⟩
    · exact ⟨_, _, _, rfl, hw _ (List.mem_of_getElem? (i := 65) rfl), Or.inl (hw _ (List.mem_of_getElem? (i := 66) rfl))⟩
    · exact ⟨_, _, _, rfl, hw _ (List.mem_of_getElem? (i := 67) rfl), Or.inl (hw _ (List.mem_of_getElem? (i := 68) rfl))⟩
  · simp only [kIC, List.mem_cons, List.not_mem_nil, or_false] at hx
    rcases hx with rfl | rfl | rfl
    · exact hw _ (List.mem_of_getElem? (i := 54) rfl)
    · exact hw _ (List.mem_of_getElem? (i := 159) rfl)
    · exact hw _ (List.mem_of_getElem? (i := 223) rfl)
  · simp only [kJC, List.mem_cons, List.not_mem_nil, or_false] at hx
    rcases hx with rfl
    · exact hw _ (List.mem_of_getElem? (i := 178) rfl)
theorem tabL (hw : WH a0 Z) (mn : String) : Tab Z a0 "LogicBist" "LogicBistOwnLaw" mn fsC [] [] kIL kJL := by
  refine ⟨fun x hx => ?_, fun x hx => ?_, fun x hx => ?_, fun x hx => ?_⟩
  · cases hx
  · cases hx
  · simp only [kIL, List.mem_cons, List.not_mem_nil, or_false] at hx
    rcases hx with rfl | rfl | rfl | rfl
    · exact hw _ (List.mem_of_getElem? (i := 7) rfl)
    · exact hw _ (List.mem_of_getElem? (i := 103) rfl)
    · exact hw _ (List.mem_of_getElem? (i := 160) rfl)
    · exact hw _ (List.mem_of_getElem? (i := 235) rfl)
  · simp [kJL] at hx
theorem lk_L_48 (hw : WH a0 Z) : LkS Z a0 "LogicBistOwnLaw" 48 (⟨"LogicBistOwnLaw", "cell", "([II)I"⟩ : MethodName) method_2_code 2 (some .int) := ⟨hw _ (List.mem_of_getElem? (i := 0) rfl), hw _ (List.mem_of_getElem? (i := 1) rfl), hw _ (List.mem_of_getElem? (i := 3) rfl), hw _ (List.mem_of_getElem? (i := 2) rfl), by unfold notMH; decide⟩
theorem lk_L_52 (hw : WH a0 Z) : LkS Z a0 "LogicBistOwnLaw" 52 (⟨"LogicBistOwnLaw", "pos", "(I)I"⟩ : MethodName) method_3_code 1 (some .int) := ⟨hw _ (List.mem_of_getElem? (i := 4) rfl), hw _ (List.mem_of_getElem? (i := 5) rfl), hw _ (List.mem_of_getElem? (i := 6) rfl), hw _ (List.mem_of_getElem? (i := 2) rfl), by unfold notMH; decide⟩
theorem lk_L_55 (hw : WH a0 Z) : LkI Z a0 "LogicBistOwnLaw" 55 (⟨"LogicBist", "<init>", "(III)V"⟩ : MethodName) prog_1_method_1_code 4 := ⟨hw _ (List.mem_of_getElem? (i := 11) rfl), hw _ (List.mem_of_getElem? (i := 12) rfl), hw _ (List.mem_of_getElem? (i := 13) rfl), hw _ (List.mem_of_getElem? (i := 10) rfl), by unfold notMH; decide, rfl⟩
theorem lk_C_39 (hw : WH a0 Z) : LkP Z a0 "LogicBist" 39 (⟨"LogicBist", "clamp", "(III)I"⟩ : MethodName) prog_1_method_44_code 4 (some .int) := ⟨hw _ (List.mem_of_getElem? (i := 38) rfl), hw _ (List.mem_of_getElem? (i := 39) rfl), hw _ (List.mem_of_getElem? (i := 41) rfl), hw _ (List.mem_of_getElem? (i := 10) rfl), by unfold notMH; decide, hw _ (List.mem_of_getElem? (i := 40) rfl)⟩
theorem lk_C_69 (hw : WH a0 Z) : LkP Z a0 "LogicBist" 69 (⟨"LogicBist", "clearSession", "()V"⟩ : MethodName) prog_1_method_18_code 2 none := ⟨hw _ (List.mem_of_getElem? (i := 59) rfl), hw _ (List.mem_of_getElem? (i := 60) rfl), hw _ (List.mem_of_getElem? (i := 62) rfl), hw _ (List.mem_of_getElem? (i := 10) rfl), by unfold notMH; decide, hw _ (List.mem_of_getElem? (i := 61) rfl)⟩
theorem lk_C_122 (hw : WH a0 Z) : LkP Z a0 "LogicBist" 122 (⟨"LogicBist", "resetFault", "(I)V"⟩ : MethodName) prog_1_method_19_code 2 none := ⟨hw _ (List.mem_of_getElem? (i := 69) rfl), hw _ (List.mem_of_getElem? (i := 70) rfl), hw _ (List.mem_of_getElem? (i := 72) rfl), hw _ (List.mem_of_getElem? (i := 10) rfl), by unfold notMH; decide, hw _ (List.mem_of_getElem? (i := 71) rfl)⟩
theorem lk_L_58 (hw : WH a0 Z) : LkV Z a0 "LogicBistOwnLaw" 58 (⟨"LogicBist", "addGate", "(III)I"⟩ : MethodName) prog_1_method_2_code 5 (some .int) := ⟨hw _ (List.mem_of_getElem? (i := 73) rfl), hw _ (List.mem_of_getElem? (i := 75) rfl), hw _ (List.mem_of_getElem? (i := 77) rfl), hw _ (List.mem_of_getElem? (i := 10) rfl), by unfold notMH; decide, hw _ (List.mem_of_getElem? (i := 74) rfl), hw _ (List.mem_of_getElem? (i := 76) rfl)⟩
theorem lk_C_75 (hw : WH a0 Z) : LkP Z a0 "LogicBist" 75 (⟨"LogicBist", "isGateKind", "(I)Z"⟩ : MethodName) prog_1_method_42_code 2 (some .boolean) := ⟨hw _ (List.mem_of_getElem? (i := 78) rfl), hw _ (List.mem_of_getElem? (i := 79) rfl), hw _ (List.mem_of_getElem? (i := 81) rfl), hw _ (List.mem_of_getElem? (i := 10) rfl), by unfold notMH; decide, hw _ (List.mem_of_getElem? (i := 80) rfl)⟩
theorem lk_C_79 (hw : WH a0 Z) : LkP Z a0 "LogicBist" 79 (⟨"LogicBist", "isSignal", "(I)Z"⟩ : MethodName) prog_1_method_40_code 2 (some .boolean) := ⟨hw _ (List.mem_of_getElem? (i := 82) rfl), hw _ (List.mem_of_getElem? (i := 83) rfl), hw _ (List.mem_of_getElem? (i := 85) rfl), hw _ (List.mem_of_getElem? (i := 10) rfl), by unfold notMH; decide, hw _ (List.mem_of_getElem? (i := 84) rfl)⟩
theorem lk_C_146 (hw : WH a0 Z) : LkP Z a0 "LogicBist" 146 (⟨"LogicBist", "signalCount", "()I"⟩ : MethodName) prog_1_method_32_code 1 (some .int) := ⟨hw _ (List.mem_of_getElem? (i := 86) rfl), hw _ (List.mem_of_getElem? (i := 87) rfl), hw _ (List.mem_of_getElem? (i := 89) rfl), hw _ (List.mem_of_getElem? (i := 10) rfl), by unfold notMH; decide, hw _ (List.mem_of_getElem? (i := 88) rfl)⟩
theorem lk_C_82 (hw : WH a0 Z) : LkP Z a0 "LogicBist" 82 (⟨"LogicBist", "isTwoOperand", "(I)Z"⟩ : MethodName) prog_1_method_43_code 2 (some .boolean) := ⟨hw _ (List.mem_of_getElem? (i := 90) rfl), hw _ (List.mem_of_getElem? (i := 91) rfl), hw _ (List.mem_of_getElem? (i := 93) rfl), hw _ (List.mem_of_getElem? (i := 10) rfl), by unfold notMH; decide, hw _ (List.mem_of_getElem? (i := 92) rfl)⟩
theorem lk_C_85 (hw : WH a0 Z) : LkP Z a0 "LogicBist" 85 (⟨"LogicBist", "appendGate", "(III)I"⟩ : MethodName) prog_1_method_20_code 6 (some .int) := ⟨hw _ (List.mem_of_getElem? (i := 94) rfl), hw _ (List.mem_of_getElem? (i := 95) rfl), hw _ (List.mem_of_getElem? (i := 97) rfl), hw _ (List.mem_of_getElem? (i := 10) rfl), by unfold notMH; decide, hw _ (List.mem_of_getElem? (i := 96) rfl)⟩
theorem lk_L_62 (hw : WH a0 Z) : LkV Z a0 "LogicBistOwnLaw" 62 (⟨"LogicBist", "markOutput", "(I)Z"⟩ : MethodName) prog_1_method_3_code 2 (some .boolean) := ⟨hw _ (List.mem_of_getElem? (i := 98) rfl), hw _ (List.mem_of_getElem? (i := 100) rfl), hw _ (List.mem_of_getElem? (i := 102) rfl), hw _ (List.mem_of_getElem? (i := 10) rfl), by unfold notMH; decide, hw _ (List.mem_of_getElem? (i := 99) rfl), hw _ (List.mem_of_getElem? (i := 101) rfl)⟩
theorem lk_L_66 (hw : WH a0 Z) : LkS Z a0 "LogicBistOwnLaw" 66 (⟨"LogicBistOwnLaw", "check", "(LLogicBist;IIIII)Z"⟩ : MethodName) method_6_code 16 (some .boolean) := ⟨hw _ (List.mem_of_getElem? (i := 104) rfl), hw _ (List.mem_of_getElem? (i := 105) rfl), hw _ (List.mem_of_getElem? (i := 106) rfl), hw _ (List.mem_of_getElem? (i := 2) rfl), by unfold notMH; decide⟩
theorem lk_L_9 (hw : WH a0 Z) : LkV Z a0 "LogicBistOwnLaw" 9 (⟨"LogicBist", "getPatternCount", "()I"⟩ : MethodName) prog_1_method_9_code 1 (some .int) := ⟨hw _ (List.mem_of_getElem? (i := 107) rfl), hw _ (List.mem_of_getElem? (i := 109) rfl), hw _ (List.mem_of_getElem? (i := 111) rfl), hw _ (List.mem_of_getElem? (i := 10) rfl), by unfold notMH; decide, hw _ (List.mem_of_getElem? (i := 108) rfl), hw _ (List.mem_of_getElem? (i := 110) rfl)⟩
theorem lk_L_15 (hw : WH a0 Z) : LkV Z a0 "LogicBistOwnLaw" 15 (⟨"LogicBist", "getFaultCount", "()I"⟩ : MethodName) prog_1_method_17_code 1 (some .int) := ⟨hw _ (List.mem_of_getElem? (i := 112) rfl), hw _ (List.mem_of_getElem? (i := 114) rfl), hw _ (List.mem_of_getElem? (i := 116) rfl), hw _ (List.mem_of_getElem? (i := 10) rfl), by unfold notMH; decide, hw _ (List.mem_of_getElem? (i := 113) rfl), hw _ (List.mem_of_getElem? (i := 115) rfl)⟩
theorem lk_C_118 (hw : WH a0 Z) : LkP Z a0 "LogicBist" 118 (⟨"LogicBist", "faultCount", "()I"⟩ : MethodName) prog_1_method_33_code 1 (some .int) := ⟨hw _ (List.mem_of_getElem? (i := 117) rfl), hw _ (List.mem_of_getElem? (i := 118) rfl), hw _ (List.mem_of_getElem? (i := 120) rfl), hw _ (List.mem_of_getElem? (i := 10) rfl), by unfold notMH; decide, hw _ (List.mem_of_getElem? (i := 119) rfl)⟩
theorem lk_L_32 (hw : WH a0 Z) : LkV Z a0 "LogicBistOwnLaw" 32 (⟨"LogicBist", "getGoldenSignature", "()I"⟩ : MethodName) prog_1_method_11_code 1 (some .int) := ⟨hw _ (List.mem_of_getElem? (i := 121) rfl), hw _ (List.mem_of_getElem? (i := 123) rfl), hw _ (List.mem_of_getElem? (i := 125) rfl), hw _ (List.mem_of_getElem? (i := 10) rfl), by unfold notMH; decide, hw _ (List.mem_of_getElem? (i := 122) rfl), hw _ (List.mem_of_getElem? (i := 124) rfl)⟩
theorem lk_L_35 (hw : WH a0 Z) : LkV Z a0 "LogicBistOwnLaw" 35 (⟨"LogicBist", "getFirstDetect", "(I)I"⟩ : MethodName) prog_1_method_13_code 2 (some .int) := ⟨hw _ (List.mem_of_getElem? (i := 126) rfl), hw _ (List.mem_of_getElem? (i := 128) rfl), hw _ (List.mem_of_getElem? (i := 130) rfl), hw _ (List.mem_of_getElem? (i := 10) rfl), by unfold notMH; decide, hw _ (List.mem_of_getElem? (i := 127) rfl), hw _ (List.mem_of_getElem? (i := 129) rfl)⟩
theorem lk_C_103 (hw : WH a0 Z) : LkP Z a0 "LogicBist" 103 (⟨"LogicBist", "isFault", "(I)Z"⟩ : MethodName) prog_1_method_41_code 2 (some .boolean) := ⟨hw _ (List.mem_of_getElem? (i := 131) rfl), hw _ (List.mem_of_getElem? (i := 132) rfl), hw _ (List.mem_of_getElem? (i := 134) rfl), hw _ (List.mem_of_getElem? (i := 10) rfl), by unfold notMH; decide, hw _ (List.mem_of_getElem? (i := 133) rfl)⟩
theorem lk_C_115 (hw : WH a0 Z) : LkP Z a0 "LogicBist" 115 (⟨"LogicBist", "firstDetectOf", "(I)I"⟩ : MethodName) prog_1_method_39_code 2 (some .int) := ⟨hw _ (List.mem_of_getElem? (i := 135) rfl), hw _ (List.mem_of_getElem? (i := 136) rfl), hw _ (List.mem_of_getElem? (i := 138) rfl), hw _ (List.mem_of_getElem? (i := 10) rfl), by unfold notMH; decide, hw _ (List.mem_of_getElem? (i := 137) rfl)⟩
theorem lk_L_38 (hw : WH a0 Z) : LkV Z a0 "LogicBistOwnLaw" 38 (⟨"LogicBist", "getFaultSignature", "(I)I"⟩ : MethodName) prog_1_method_12_code 2 (some .int) := ⟨hw _ (List.mem_of_getElem? (i := 139) rfl), hw _ (List.mem_of_getElem? (i := 141) rfl), hw _ (List.mem_of_getElem? (i := 143) rfl), hw _ (List.mem_of_getElem? (i := 10) rfl), by unfold notMH; decide, hw _ (List.mem_of_getElem? (i := 140) rfl), hw _ (List.mem_of_getElem? (i := 142) rfl)⟩
theorem lk_L_41 (hw : WH a0 Z) : LkV Z a0 "LogicBistOwnLaw" 41 (⟨"LogicBist", "isAliased", "(I)Z"⟩ : MethodName) prog_1_method_14_code 2 (some .boolean) := ⟨hw _ (List.mem_of_getElem? (i := 144) rfl), hw _ (List.mem_of_getElem? (i := 146) rfl), hw _ (List.mem_of_getElem? (i := 148) rfl), hw _ (List.mem_of_getElem? (i := 10) rfl), by unfold notMH; decide, hw _ (List.mem_of_getElem? (i := 145) rfl), hw _ (List.mem_of_getElem? (i := 147) rfl)⟩
theorem lk_L_45 (hw : WH a0 Z) : LkV Z a0 "LogicBistOwnLaw" 45 (⟨"LogicBist", "coverageAt", "(I)I"⟩ : MethodName) prog_1_method_16_code 6 (some .int) := ⟨hw _ (List.mem_of_getElem? (i := 149) rfl), hw _ (List.mem_of_getElem? (i := 151) rfl), hw _ (List.mem_of_getElem? (i := 153) rfl), hw _ (List.mem_of_getElem? (i := 10) rfl), by unfold notMH; decide, hw _ (List.mem_of_getElem? (i := 150) rfl), hw _ (List.mem_of_getElem? (i := 152) rfl)⟩
theorem lk_L_76 (hw : WH a0 Z) : LkV Z a0 "LogicBistOwnLaw" 76 (⟨"LogicBist", "setSeed", "(I)Z"⟩ : MethodName) prog_1_method_4_code 3 (some .boolean) := ⟨hw _ (List.mem_of_getElem? (i := 154) rfl), hw _ (List.mem_of_getElem? (i := 156) rfl), hw _ (List.mem_of_getElem? (i := 158) rfl), hw _ (List.mem_of_getElem? (i := 10) rfl), by unfold notMH; decide, hw _ (List.mem_of_getElem? (i := 155) rfl), hw _ (List.mem_of_getElem? (i := 157) rfl)⟩
theorem lk_L_70 (hw : WH a0 Z) : LkV Z a0 "LogicBistOwnLaw" 70 (⟨"LogicBist", "run", "(I)I"⟩ : MethodName) prog_1_method_6_code 3 (some .int) := ⟨hw _ (List.mem_of_getElem? (i := 161) rfl), hw _ (List.mem_of_getElem? (i := 163) rfl), hw _ (List.mem_of_getElem? (i := 165) rfl), hw _ (List.mem_of_getElem? (i := 10) rfl), by unfold notMH; decide, hw _ (List.mem_of_getElem? (i := 162) rfl), hw _ (List.mem_of_getElem? (i := 164) rfl)⟩
theorem lk_C_92 (hw : WH a0 Z) : LkP Z a0 "LogicBist" 92 (⟨"LogicBist", "applyPattern", "()V"⟩ : MethodName) prog_1_method_21_code 6 none := ⟨hw _ (List.mem_of_getElem? (i := 166) rfl), hw _ (List.mem_of_getElem? (i := 167) rfl), hw _ (List.mem_of_getElem? (i := 169) rfl), hw _ (List.mem_of_getElem? (i := 10) rfl), by unfold notMH; decide, hw _ (List.mem_of_getElem? (i := 168) rfl)⟩
theorem lk_C_95 (hw : WH a0 Z) : LkP Z a0 "LogicBist" 95 (⟨"LogicBist", "evaluateGroup", "(II)V"⟩ : MethodName) prog_1_method_23_code 7 none := ⟨hw _ (List.mem_of_getElem? (i := 170) rfl), hw _ (List.mem_of_getElem? (i := 171) rfl), hw _ (List.mem_of_getElem? (i := 173) rfl), hw _ (List.mem_of_getElem? (i := 10) rfl), by unfold notMH; decide, hw _ (List.mem_of_getElem? (i := 172) rfl)⟩
theorem lk_C_149 (hw : WH a0 Z) : LkP Z a0 "LogicBist" 149 (⟨"LogicBist", "inputLane", "(II)J"⟩ : MethodName) prog_1_method_24_code 3 (some .long) := ⟨hw _ (List.mem_of_getElem? (i := 174) rfl), hw _ (List.mem_of_getElem? (i := 175) rfl), hw _ (List.mem_of_getElem? (i := 177) rfl), hw _ (List.mem_of_getElem? (i := 10) rfl), by unfold notMH; decide, hw _ (List.mem_of_getElem? (i := 176) rfl)⟩
theorem lk_C_157 (hw : WH a0 Z) : LkP Z a0 "LogicBist" 157 (⟨"LogicBist", "forceLane", "(JII)J"⟩ : MethodName) prog_1_method_27_code 10 (some .long) := ⟨hw _ (List.mem_of_getElem? (i := 179) rfl), hw _ (List.mem_of_getElem? (i := 180) rfl), hw _ (List.mem_of_getElem? (i := 182) rfl), hw _ (List.mem_of_getElem? (i := 10) rfl), by unfold notMH; decide, hw _ (List.mem_of_getElem? (i := 181) rfl)⟩
theorem lk_C_153 (hw : WH a0 Z) : LkP Z a0 "LogicBist" 153 (⟨"LogicBist", "gateLane", "(I)J"⟩ : MethodName) prog_1_method_25_code 7 (some .long) := ⟨hw _ (List.mem_of_getElem? (i := 183) rfl), hw _ (List.mem_of_getElem? (i := 184) rfl), hw _ (List.mem_of_getElem? (i := 186) rfl), hw _ (List.mem_of_getElem? (i := 10) rfl), by unfold notMH; decide, hw _ (List.mem_of_getElem? (i := 185) rfl)⟩
theorem lk_C_163 (hw : WH a0 Z) : LkP Z a0 "LogicBist" 163 (⟨"LogicBist", "loadLane", "(I)J"⟩ : MethodName) prog_1_method_28_code 2 (some .long) := ⟨hw _ (List.mem_of_getElem? (i := 187) rfl), hw _ (List.mem_of_getElem? (i := 188) rfl), hw _ (List.mem_of_getElem? (i := 190) rfl), hw _ (List.mem_of_getElem? (i := 10) rfl), by unfold notMH; decide, hw _ (List.mem_of_getElem? (i := 189) rfl)⟩
theorem lk_C_166 (hw : WH a0 Z) : LkP Z a0 "LogicBist" 166 (⟨"LogicBist", "combine", "(IJJ)J"⟩ : MethodName) prog_1_method_26_code 6 (some .long) := ⟨hw _ (List.mem_of_getElem? (i := 191) rfl), hw _ (List.mem_of_getElem? (i := 192) rfl), hw _ (List.mem_of_getElem? (i := 194) rfl), hw _ (List.mem_of_getElem? (i := 10) rfl), by unfold notMH; decide, hw _ (List.mem_of_getElem? (i := 193) rfl)⟩
theorem lk_C_99 (hw : WH a0 Z) : LkP Z a0 "LogicBist" 99 (⟨"LogicBist", "outputWordAt", "(I)I"⟩ : MethodName) prog_1_method_29_code 6 (some .int) := ⟨hw _ (List.mem_of_getElem? (i := 195) rfl), hw _ (List.mem_of_getElem? (i := 196) rfl), hw _ (List.mem_of_getElem? (i := 198) rfl), hw _ (List.mem_of_getElem? (i := 10) rfl), by unfold notMH; decide, hw _ (List.mem_of_getElem? (i := 197) rfl)⟩
theorem lk_C_126 (hw : WH a0 Z) : LkP Z a0 "LogicBist" 126 (⟨"LogicBist", "misrStep", "(II)I"⟩ : MethodName) prog_1_method_30_code 6 (some .int) := ⟨hw _ (List.mem_of_getElem? (i := 199) rfl), hw _ (List.mem_of_getElem? (i := 200) rfl), hw _ (List.mem_of_getElem? (i := 202) rfl), hw _ (List.mem_of_getElem? (i := 10) rfl), by unfold notMH; decide, hw _ (List.mem_of_getElem? (i := 201) rfl)⟩
theorem lk_C_130 (hw : WH a0 Z) : LkP Z a0 "LogicBist" 130 (⟨"LogicBist", "groupCount", "()I"⟩ : MethodName) prog_1_method_34_code 1 (some .int) := ⟨hw _ (List.mem_of_getElem? (i := 203) rfl), hw _ (List.mem_of_getElem? (i := 204) rfl), hw _ (List.mem_of_getElem? (i := 206) rfl), hw _ (List.mem_of_getElem? (i := 10) rfl), by unfold notMH; decide, hw _ (List.mem_of_getElem? (i := 205) rfl)⟩
theorem lk_C_133 (hw : WH a0 Z) : LkP Z a0 "LogicBist" 133 (⟨"LogicBist", "recordGroup", "(III)V"⟩ : MethodName) prog_1_method_22_code 8 none := ⟨hw _ (List.mem_of_getElem? (i := 207) rfl), hw _ (List.mem_of_getElem? (i := 208) rfl), hw _ (List.mem_of_getElem? (i := 210) rfl), hw _ (List.mem_of_getElem? (i := 10) rfl), by unfold notMH; decide, hw _ (List.mem_of_getElem? (i := 209) rfl)⟩
theorem lk_C_140 (hw : WH a0 Z) : LkP Z a0 "LogicBist" 140 (⟨"LogicBist", "groupFirst", "(I)I"⟩ : MethodName) prog_1_method_35_code 2 (some .int) := ⟨hw _ (List.mem_of_getElem? (i := 211) rfl), hw _ (List.mem_of_getElem? (i := 212) rfl), hw _ (List.mem_of_getElem? (i := 214) rfl), hw _ (List.mem_of_getElem? (i := 10) rfl), by unfold notMH; decide, hw _ (List.mem_of_getElem? (i := 213) rfl)⟩
theorem lk_C_143 (hw : WH a0 Z) : LkP Z a0 "LogicBist" 143 (⟨"LogicBist", "groupEnd", "(I)I"⟩ : MethodName) prog_1_method_36_code 4 (some .int) := ⟨hw _ (List.mem_of_getElem? (i := 215) rfl), hw _ (List.mem_of_getElem? (i := 216) rfl), hw _ (List.mem_of_getElem? (i := 218) rfl), hw _ (List.mem_of_getElem? (i := 10) rfl), by unfold notMH; decide, hw _ (List.mem_of_getElem? (i := 217) rfl)⟩
theorem lk_C_137 (hw : WH a0 Z) : LkP Z a0 "LogicBist" 137 (⟨"LogicBist", "lfsrStep", "(I)I"⟩ : MethodName) prog_1_method_31_code 4 (some .int) := ⟨hw _ (List.mem_of_getElem? (i := 219) rfl), hw _ (List.mem_of_getElem? (i := 220) rfl), hw _ (List.mem_of_getElem? (i := 222) rfl), hw _ (List.mem_of_getElem? (i := 10) rfl), by unfold notMH; decide, hw _ (List.mem_of_getElem? (i := 221) rfl)⟩
theorem lk_L_18 (hw : WH a0 Z) : LkV Z a0 "LogicBistOwnLaw" 18 (⟨"LogicBist", "simulate", "(II)I"⟩ : MethodName) prog_1_method_8_code 3 (some .int) := ⟨hw _ (List.mem_of_getElem? (i := 224) rfl), hw _ (List.mem_of_getElem? (i := 226) rfl), hw _ (List.mem_of_getElem? (i := 228) rfl), hw _ (List.mem_of_getElem? (i := 10) rfl), by unfold notMH; decide, hw _ (List.mem_of_getElem? (i := 225) rfl), hw _ (List.mem_of_getElem? (i := 227) rfl)⟩
theorem lk_L_22 (hw : WH a0 Z) : LkS Z a0 "LogicBistOwnLaw" 22 (⟨"LogicBistOwnLaw", "misr", "(IIII)I"⟩ : MethodName) method_5_code 6 (some .int) := ⟨hw _ (List.mem_of_getElem? (i := 229) rfl), hw _ (List.mem_of_getElem? (i := 230) rfl), hw _ (List.mem_of_getElem? (i := 231) rfl), hw _ (List.mem_of_getElem? (i := 2) rfl), by unfold notMH; decide⟩
theorem lk_L_28 (hw : WH a0 Z) : LkS Z a0 "LogicBistOwnLaw" 28 (⟨"LogicBistOwnLaw", "lfsr", "(I)I"⟩ : MethodName) method_4_code 2 (some .int) := ⟨hw _ (List.mem_of_getElem? (i := 232) rfl), hw _ (List.mem_of_getElem? (i := 233) rfl), hw _ (List.mem_of_getElem? (i := 234) rfl), hw _ (List.mem_of_getElem? (i := 2) rfl), by unfold notMH; decide⟩
theorem lk_C_106 (hw : WH a0 Z) : LkP Z a0 "LogicBist" 106 (⟨"LogicBist", "groupOfFault", "(I)I"⟩ : MethodName) prog_1_method_37_code 2 (some .int) := ⟨hw _ (List.mem_of_getElem? (i := 236) rfl), hw _ (List.mem_of_getElem? (i := 237) rfl), hw _ (List.mem_of_getElem? (i := 239) rfl), hw _ (List.mem_of_getElem? (i := 10) rfl), by unfold notMH; decide, hw _ (List.mem_of_getElem? (i := 238) rfl)⟩
theorem lk_C_109 (hw : WH a0 Z) : LkP Z a0 "LogicBist" 109 (⟨"LogicBist", "laneOfFault", "(I)I"⟩ : MethodName) prog_1_method_38_code 2 (some .int) := ⟨hw _ (List.mem_of_getElem? (i := 240) rfl), hw _ (List.mem_of_getElem? (i := 241) rfl), hw _ (List.mem_of_getElem? (i := 243) rfl), hw _ (List.mem_of_getElem? (i := 10) rfl), by unfold notMH; decide, hw _ (List.mem_of_getElem? (i := 242) rfl)⟩
theorem lk_L_73 (hw : WH a0 Z) : LkV Z a0 "LogicBistOwnLaw" 73 (⟨"LogicBist", "restart", "()V"⟩ : MethodName) prog_1_method_7_code 1 none := ⟨hw _ (List.mem_of_getElem? (i := 244) rfl), hw _ (List.mem_of_getElem? (i := 246) rfl), hw _ (List.mem_of_getElem? (i := 248) rfl), hw _ (List.mem_of_getElem? (i := 10) rfl), by unfold notMH; decide, hw _ (List.mem_of_getElem? (i := 245) rfl), hw _ (List.mem_of_getElem? (i := 247) rfl)⟩
theorem lk_L_80 (hw : WH a0 Z) : LkV Z a0 "LogicBistOwnLaw" 80 (⟨"LogicBist", "setMisrMask", "(I)Z"⟩ : MethodName) prog_1_method_5_code 2 (some .boolean) := ⟨hw _ (List.mem_of_getElem? (i := 249) rfl), hw _ (List.mem_of_getElem? (i := 251) rfl), hw _ (List.mem_of_getElem? (i := 253) rfl), hw _ (List.mem_of_getElem? (i := 10) rfl), by unfold notMH; decide, hw _ (List.mem_of_getElem? (i := 250) rfl), hw _ (List.mem_of_getElem? (i := 252) rfl)⟩
end Words
section Walk
variable {p : Program} {l : Launch} {e : Env} {s : State} {m : MethodId} {args : Array Value} {below : List Frame} {meth : Method} {c : Code} {Z : State} {a0 : Array Value} {n0 : Nat} {h0 : Heap} {A A0 : Nat → Addr} {w w0 : Nat → Option CD} {sn : Nat} {sf : Nat → Int32}
abbrev rm_q_cell : Room := { frames := 0, cells := 0, slots := 0, locals := 0 }
def q_cell (sn : Nat) (sf : Nat → Int32) (x1 : Int32) (σ : Sg) : Option (Int32 × Sg) :=
  if x1 < sn.toInt32 then (if inb x1 sn = true then (some (sf (nx x1), σ)) else none) else (some ((0 : Int32), σ))
set_option maxRecDepth 65536 in
set_option maxHeartbeats 4000000 in
theorem ok_q_cell (hw : WH a0 Z) (hsc : w 99 = some (.inr (.int, sn, some sf))) (x1 : Int32) (σ : Sg) : ∀ x, q_cell sn sf x1 σ = some x → Con l Z "LogicBist" fsC (⟨"LogicBistOwnLaw", "cell", "([II)I"⟩ : MethodName) method_2_code 2 (some .int) rm_q_cell w [.ref 99, .int x1] σ (fI x).1 (fI x).2 := by
  refine am_con pnL ?_
  intro p e s m below meth c A n0 h0 hc
  have hT := tabL hw "cell"
  have hF := fsokC hw
  have wi := wiC hw
  unfold q_cell
  refine am_blk (pc' := 2) (Ls' := [.val (.ref 99), .val (.int x1)]) (St' := [.ref 99, .int x1]) (σ' := σ) [.iload_n 1, .aload_n 0] (by decide +kernel) hc hT hF wi (by exact rfl) ?_
  refine am_alen (by decide +kernel) hc hsc ?_
  refine am_icmp_ge (o := 9) (pc1 := 12) (by decide +kernel) hc (fun hq => ?_) (fun hq => ?_)
  · refine am_blk (pc' := 8) (Ls' := [.val (.ref 99), .val (.int x1)]) (St' := [.int x1, .ref 99]) (σ' := σ) [.aload_n 0, .iload_n 1] (by decide +kernel) hc hT hF wi (by exact rfl) ?_
    refine am_ialoadC (by decide +kernel) hc hsc (fun hb0 => ?_)
    refine am_blk (pc' := 13) (Ls' := [.val (.ref 99), .val (.int x1)]) (St' := [.int (sf (nx x1))]) (σ' := σ) [.goto 4] (by decide +kernel) hc hT hF wi (by exact rfl) ?_
    exact am_retI (by decide +kernel) hc (by decide) (by decide) (fun h W O => ⟨rfl, W, O⟩)
  · refine am_blk (pc' := 13) (Ls' := [.val (.ref 99), .val (.int x1)]) (St' := [.int (0 : Int32)]) (σ' := σ) [.iconst 0] (by decide +kernel) hc hT hF wi (by exact rfl) ?_
    exact am_retI (by decide +kernel) hc (by decide) (by decide) (fun h W O => ⟨rfl, W, O⟩)
abbrev rm_q_pos : Room := { frames := 0, cells := 0, slots := 0, locals := 0 }
def q_pos (x0 : Int32) (σ : Sg) : Option (Int32 × Sg) :=
  some (x0 &&& (2147483647 : Int32), σ)
set_option maxRecDepth 65536 in
set_option maxHeartbeats 4000000 in
theorem ok_q_pos (hw : WH a0 Z) (x0 : Int32) (σ : Sg) : ∀ x, q_pos x0 σ = some x → Con l Z "LogicBist" fsC (⟨"LogicBistOwnLaw", "pos", "(I)I"⟩ : MethodName) method_3_code 1 (some .int) rm_q_pos w [.int x0] σ (fI x).1 (fI x).2 := by
  refine am_con pnL ?_
  intro p e s m below meth c A n0 h0 hc
  have hT := tabL hw "pos"
  have hF := fsokC hw
  have wi := wiC hw
  unfold q_pos
  refine am_blk (pc' := 4) (Ls' := [.val (.int x0)]) (St' := [.int (x0 &&& (2147483647 : Int32))]) (σ' := σ) [.iload_n 0, .ldc 7, .iand] (by decide +kernel) hc hT hF wi (by exact rfl) ?_
  exact am_retI (by decide +kernel) hc (by decide) (by decide) (fun h W O => ⟨rfl, W, O⟩)
abbrev rm_c_clamp : Room := { frames := 0, cells := 0, slots := 0, locals := 0 }
def c_clamp (x1 : Int32) (x2 : Int32) (x3 : Int32) (σ : Sg) : Option (Int32 × Sg) :=
  if x1 < x2 then (some (x2, σ)) else (if x3 < x1 then (some (x3, σ)) else (some (x1, σ)))
set_option maxRecDepth 65536 in
set_option maxHeartbeats 4000000 in
theorem ok_c_clamp (hw : WH a0 Z) (x1 : Int32) (x2 : Int32) (x3 : Int32) (σ : Sg) : ∀ x, c_clamp x1 x2 x3 σ = some x → Con l Z "LogicBist" fsC (⟨"LogicBist", "clamp", "(III)I"⟩ : MethodName) prog_1_method_44_code 4 (some .int) rm_c_clamp wC [.ref 0, .int x1, .int x2, .int x3] σ (fI x).1 (fI x).2 := by
  refine am_con pnC ?_
  intro p e s m below meth c A n0 h0 hc
  have hT := tabC hw "clamp"
  have hF := fsokC hw
  have wi := wiC hw
  unfold c_clamp
  refine am_blk (pc' := 2) (Ls' := [.val (.ref 0), .val (.int x1), .val (.int x2), .val (.int x3)]) (St' := [.int x2, .int x1]) (σ' := σ) [.iload_n 1, .iload_n 2] (by decide +kernel) hc hT hF wi (by exact rfl) ?_
  refine am_icmp_ge (o := 5) (pc1 := 7) (by decide +kernel) hc (fun hq => ?_) (fun hq => ?_)
  · refine am_blk (pc' := 6) (Ls' := [.val (.ref 0), .val (.int x1), .val (.int x2), .val (.int x3)]) (St' := [.int x2]) (σ' := σ) [.iload_n 2] (by decide +kernel) hc hT hF wi (by exact rfl) ?_
    exact am_retI (by decide +kernel) hc (by decide) (by decide) (fun h W O => ⟨rfl, W, O⟩)
  · refine am_blk (pc' := 9) (Ls' := [.val (.ref 0), .val (.int x1), .val (.int x2), .val (.int x3)]) (St' := [.int x3, .int x1]) (σ' := σ) [.iload_n 1, .iload_n 3] (by decide +kernel) hc hT hF wi (by exact rfl) ?_
    refine am_icmp_le (o := 5) (pc1 := 14) (by decide +kernel) hc (fun hq => ?_) (fun hq => ?_)
    · refine am_blk (pc' := 13) (Ls' := [.val (.ref 0), .val (.int x1), .val (.int x2), .val (.int x3)]) (St' := [.int x3]) (σ' := σ) [.iload_n 3] (by decide +kernel) hc hT hF wi (by exact rfl) ?_
      exact am_retI (by decide +kernel) hc (by decide) (by decide) (fun h W O => ⟨rfl, W, O⟩)
    · refine am_blk (pc' := 15) (Ls' := [.val (.ref 0), .val (.int x1), .val (.int x2), .val (.int x3)]) (St' := [.int x1]) (σ' := σ) [.iload_n 1] (by decide +kernel) hc hT hF wi (by exact rfl) ?_
      exact am_retI (by decide +kernel) hc (by decide) (by decide) (fun h W O => ⟨rfl, W, O⟩)
abbrev rm_c_resetFault : Room := { frames := 0, cells := 0, slots := 0, locals := 0 }
def c_resetFault (x1 : Int32) (σ : Sg) : Option Sg :=
  if x1 < 0 then (some σ) else (if x1 < (80 : Int32) then (if inb x1 80 = true then (some (si (si (si σ 6 (nx x1) (0 : Int32)) 7 (nx x1) (-1 : Int32)) 8 (nx x1) (0 : Int32))) else none) else (some σ))
set_option maxRecDepth 65536 in
set_option maxHeartbeats 4000000 in
theorem ok_c_resetFault (hw : WH a0 Z) (x1 : Int32) (σ : Sg) : ∀ x, c_resetFault x1 σ = some x → Con l Z "LogicBist" fsC (⟨"LogicBist", "resetFault", "(I)V"⟩ : MethodName) prog_1_method_19_code 2 none rm_c_resetFault wC [.ref 0, .int x1] σ (fV x).1 (fV x).2 := by
  refine am_con pnC ?_
  intro p e s m below meth c A n0 h0 hc
  have hT := tabC hw "resetFault"
  have hF := fsokC hw
  have wi := wiC hw
  unfold c_resetFault
  refine am_blk (pc' := 1) (Ls' := [.val (.ref 0), .val (.int x1)]) (St' := [.int x1]) (σ' := σ) [.iload_n 1] (by decide +kernel) hc hT hF wi (by exact rfl) ?_
  refine am_if_lt (o := 9) (pc1 := 10) (by decide +kernel) hc (fun hq => ?_) (fun hq => ?_)
  · exact am_retV (by decide +kernel) hc (by decide) (by decide) (fun h W O => ⟨rfl, W, O⟩)
  · refine am_blk (pc' := 7) (Ls' := [.val (.ref 0), .val (.int x1)]) (St' := [.int (80 : Int32), .int x1]) (σ' := σ) [.iload_n 1, .bipush 80] (by decide +kernel) hc hT hF wi (by exact rfl) ?_
    refine am_icmp_lt (o := 4) (pc1 := 11) (by decide +kernel) hc (fun hq => ?_) (fun hq => ?_)
    · refine am_blk (pc' := 17) (Ls' := [.val (.ref 0), .val (.int x1)]) (St' := [.int (0 : Int32), .int x1, .ref 6]) (σ' := σ) [.aload_n 0, .getfield 26, .iload_n 1, .iconst 0] (by decide +kernel) hc hT hF wi (by exact rfl) ?_
      refine am_iastore (y := (0 : Int32)) rfl (by decide +kernel) hc rfl (fun hb0 => ?_)
      refine am_blk (pc' := 24) (Ls' := [.val (.ref 0), .val (.int x1)]) (St' := [.int (-1 : Int32), .int x1, .ref 7]) (σ' := si σ 6 (nx x1) (0 : Int32)) [.aload_n 0, .getfield 29, .iload_n 1, .iconst (-1)] (by decide +kernel) hc hT hF wi (by exact rfl) ?_
      refine am_iastore_k hb0 (y := (-1 : Int32)) rfl (by decide +kernel) hc rfl ?_
      refine am_blk (pc' := 31) (Ls' := [.val (.ref 0), .val (.int x1)]) (St' := [.int (0 : Int32), .int x1, .ref 8]) (σ' := si (si σ 6 (nx x1) (0 : Int32)) 7 (nx x1) (-1 : Int32)) [.aload_n 0, .getfield 32, .iload_n 1, .iconst 0] (by decide +kernel) hc hT hF wi (by exact rfl) ?_
      refine am_bastoreZ_k hb0 (y := (0 : Int32)) rfl (by decide +kernel) hc rfl ?_
      exact am_retV (by decide +kernel) hc (by decide) (by decide) (fun h W O => ⟨rfl, W, O⟩)
    · exact am_retV (by decide +kernel) hc (by decide) (by decide) (fun h W O => ⟨rfl, W, O⟩)
abbrev rm_c_clearSession : Room := { frames := 1, cells := 0, slots := 0, locals := 13 }
def c_clearSession_20 : Nat → Int32 → Sg → Option Sg
  | 0, _, _ => none
  | fuel + 1, x1, σ =>
    if x1 < (80 : Int32) then ((c_resetFault x1 σ).bind fun r1 => c_clearSession_20 fuel (x1 + (1 : Int32)) r1) else (some σ)
set_option maxRecDepth 65536 in
set_option maxHeartbeats 4000000 in
theorem okc_c_clearSession_20 (hw : WH a0 Z) (hc : Cx p s m meth c Z "LogicBist" prog_1_method_18_code 2 none "clearSession") : ∀ (fuel : Nat) (x1 : Int32) (σ : Sg), OkR p l e rm_c_clearSession s m args below meth c Z "LogicBist" fsC n0 h0 (FM Z "LogicBist" fsC A wC h0 fV) A wC 0 0 20 [.val (.ref 0), .val (.int x1)] [] σ (c_clearSession_20 fuel x1 σ) := by
  have hT := tabC hw "clearSession"
  have hF := fsokC hw
  have wi := wiC hw
  intro fuel
  induction fuel with
  | zero => intro x1 σ; exact am_none rfl
  | succ fuel ih =>
    intro x1 σ
    rw [c_clearSession_20]
    refine am_blk (pc' := 23) (Ls' := [.val (.ref 0), .val (.int x1)]) (St' := [.int (80 : Int32), .int x1]) (σ' := σ) [.iload_n 1, .bipush 80] (by decide +kernel) hc hT hF wi (by exact rfl) ?_
    refine am_icmp_ge (o := 14) (pc1 := 37) (by decide +kernel) hc (fun hq => ?_) (fun hq => ?_)
    · refine am_blk (pc' := 28) (Ls' := [.val (.ref 0), .val (.int x1)]) (St' := [.int x1, .ref 0]) (σ' := σ) [.aload_n 0, .iload_n 1] (by decide +kernel) hc hT hF wi (by exact rfl) ?_
      refine am_callP_V (W0 := 0) (argsL := [.int x1]) (rest := []) rfl (lk_C_122 hw) rfl wi (by decide +kernel) hc (SubW.refl _) rfl (by show arity "(I)V" 1 = true; decide +kernel) (ok_c_resetFault hw x1 _) rfl ⟨by decide, by decide, Nat.le_of_eq rfl, rfl, rfl, by decide, by decide⟩ (fun r1 hr => ?_)
      refine am_blk (pc' := 20) (Ls' := [.val (.ref 0), .val (.int (x1 + (1 : Int32)))]) (St' := []) (σ' := r1) [.iinc 1 1, .goto (-14)] (by decide +kernel) hc hT hF wi (by exact rfl) ?_
      exact am_wk (Ls' := [.val (.ref 0), .val (.int (x1 + (1 : Int32)))]) (by simp [wkL]) (ih (x1 + (1 : Int32)) r1)
    · exact am_retV (by decide +kernel) hc (by decide) (by decide) (fun h W O => ⟨rfl, W, O⟩)
def c_clearSession (σ : Sg) : Option Sg :=
  c_clearSession_20 400 (0 : Int32) (si (si (si σ 0 17 (0 : Int32)) 0 18 (gi σ 0 15)) 0 19 (0 : Int32))
set_option maxRecDepth 65536 in
set_option maxHeartbeats 4000000 in
theorem ok_c_clearSession (hw : WH a0 Z) (σ : Sg) : ∀ x, c_clearSession σ = some x → Con l Z "LogicBist" fsC (⟨"LogicBist", "clearSession", "()V"⟩ : MethodName) prog_1_method_18_code 2 none rm_c_clearSession wC [.ref 0] σ (fV x).1 (fV x).2 := by
  refine am_con pnC ?_
  intro p e s m below meth c A n0 h0 hc
  have hT := tabC hw "clearSession"
  have hF := fsokC hw
  have wi := wiC hw
  unfold c_clearSession
  refine am_blk (pc' := 20) (Ls' := [.val (.ref 0), .val (.int (0 : Int32))]) (St' := []) (σ' := si (si (si σ 0 17 (0 : Int32)) 0 18 (gi σ 0 15)) 0 19 (0 : Int32)) [.aload_n 0, .iconst 0, .putfield 72, .aload_n 0, .aload_n 0, .getfield 63, .putfield 89, .aload_n 0, .iconst 0, .putfield 112, .iconst 0, .istore_n 1] (by decide +kernel) hc hT hF wi (by exact rfl) ?_
  exact am_wk (Ls' := [.val (.ref 0), .val (.int (0 : Int32))]) (by simp [wkL]) (okc_c_clearSession_20 hw hc 400 (0 : Int32) (si (si (si σ 0 17 (0 : Int32)) 0 18 (gi σ 0 15)) 0 19 (0 : Int32)))
abbrev rm_c_init : Room := { frames := 2, cells := 9, slots := 424, locals := 26 }
def c_init (x1 : Int32) (x2 : Int32) (x3 : Int32) : Option Sg :=
  (c_clamp x1 (1 : Int32) (8 : Int32) zs).bind fun r1 => (c_clamp x2 (8 : Int32) (32 : Int32) (si r1.2 0 9 r1.1)).bind fun r2 => (c_clamp x3 (1 : Int32) (16 : Int32) (si r2.2 0 10 r2.1)).bind fun r3 => (c_clearSession (si (si (si (si (si (si r3.2 0 11 r3.1) 0 12 (((1 : Int32) <<< (r3.1 &&& 31)) - (1 : Int32))) 0 13 (0 : Int32)) 0 14 (0 : Int32)) 0 15 (44257 : Int32)) 0 16 (((1 : Int32) <<< (r3.1 &&& 31)) - (1 : Int32)))).bind fun r4 => some r4
set_option maxRecDepth 65536 in
set_option maxHeartbeats 4000000 in
theorem ok_c_init (hw : WH a0 Z) (x1 : Int32) (x2 : Int32) (x3 : Int32) : ∀ x, c_init x1 x2 x3 = some x → ConI l Z "LogicBist" fsC arrsC (⟨"LogicBist", "<init>", "(III)V"⟩ : MethodName) prog_1_method_1_code 4 rm_c_init [.int x1, .int x2, .int x3] x := by
  refine am_conI pnC ?_
  intro p e s m below meth c A n0 h0 hn hc
  have hAE0 : AE h0 A A 0 := ⟨rfl, fun k q1 q2 => by omega⟩
  have hT := tabI hw
  have hF := fsokC hw
  have wi := wiC hw
  unfold c_init
  refine am_blk (pc' := 1) (Ls' := [.val (.ref 0), .val (.int x1), .val (.int x2), .val (.int x3)]) (St' := [.ref 0]) (σ' := zs) [.aload_n 0] (by decide +kernel) hc hT hF wi (by exact rfl) ?_
  refine am_objinit (W0 := 0) (by decide +kernel) hc (hw _ (List.mem_of_getElem? (i := 14) rfl)) (hw _ (List.mem_of_getElem? (i := 15) rfl)) (hw _ (List.mem_of_getElem? (i := 16) rfl)) rfl ⟨by decide, by decide, Nat.le_of_eq rfl⟩ ?_
  refine am_blk (pc' := 7) (Ls' := [.val (.ref 0), .val (.int x1), .val (.int x2), .val (.int x3)]) (St' := [.int (32 : Int32), .ref 0]) (σ' := zs) [.aload_n 0, .bipush 32] (by decide +kernel) hc hT hF wi (by exact rfl) ?_
  refine am_newarr (a := 0) (n := 32) (aty := .int) (by decide +kernel) hc (hw _ (List.mem_of_getElem? (i := 17) rfl)) rfl (by decide) rfl ⟨rfl, rfl⟩ hAE0 hn ⟨by decide, by decide, by decide⟩ (fun A hAE1 => ?_)
  refine am_putref (a := 0) (j := 0) (by decide +kernel) hc hF wi rfl (by decide) (hw _ (List.mem_of_getElem? (i := 18) rfl)) (Or.inr ⟨(hw _ (List.mem_of_getElem? (i := 19) rfl)), rfl, rfl⟩) ?_
  refine am_blk (pc' := 15) (Ls' := [.val (.ref 0), .val (.int x1), .val (.int x2), .val (.int x3)]) (St' := [.int (32 : Int32), .ref 0]) (σ' := zs) [.aload_n 0, .bipush 32] (by decide +kernel) hc hT hF wi (by exact rfl) ?_
  refine am_newarr (a := 1) (n := 32) (aty := .int) (by decide +kernel) hc (hw _ (List.mem_of_getElem? (i := 17) rfl)) rfl (by decide) rfl ⟨rfl, rfl⟩ hAE1 hn ⟨by decide, by decide, by decide⟩ (fun A hAE2 => ?_)
  refine am_putref (a := 1) (j := 1) (by decide +kernel) hc hF wi rfl (by decide) (hw _ (List.mem_of_getElem? (i := 20) rfl)) (Or.inr ⟨(hw _ (List.mem_of_getElem? (i := 21) rfl)), rfl, rfl⟩) ?_
  refine am_blk (pc' := 23) (Ls' := [.val (.ref 0), .val (.int x1), .val (.int x2), .val (.int x3)]) (St' := [.int (32 : Int32), .ref 0]) (σ' := zs) [.aload_n 0, .bipush 32] (by decide +kernel) hc hT hF wi (by exact rfl) ?_
  refine am_newarr (a := 2) (n := 32) (aty := .int) (by decide +kernel) hc (hw _ (List.mem_of_getElem? (i := 17) rfl)) rfl (by decide) rfl ⟨rfl, rfl⟩ hAE2 hn ⟨by decide, by decide, by decide⟩ (fun A hAE3 => ?_)
  refine am_putref (a := 2) (j := 2) (by decide +kernel) hc hF wi rfl (by decide) (hw _ (List.mem_of_getElem? (i := 22) rfl)) (Or.inr ⟨(hw _ (List.mem_of_getElem? (i := 23) rfl)), rfl, rfl⟩) ?_
  refine am_blk (pc' := 31) (Ls' := [.val (.ref 0), .val (.int x1), .val (.int x2), .val (.int x3)]) (St' := [.int (8 : Int32), .ref 0]) (σ' := zs) [.aload_n 0, .bipush 8] (by decide +kernel) hc hT hF wi (by exact rfl) ?_
  refine am_newarr (a := 3) (n := 8) (aty := .int) (by decide +kernel) hc (hw _ (List.mem_of_getElem? (i := 17) rfl)) rfl (by decide) rfl ⟨rfl, rfl⟩ hAE3 hn ⟨by decide, by decide, by decide⟩ (fun A hAE4 => ?_)
  refine am_putref (a := 3) (j := 3) (by decide +kernel) hc hF wi rfl (by decide) (hw _ (List.mem_of_getElem? (i := 24) rfl)) (Or.inr ⟨(hw _ (List.mem_of_getElem? (i := 25) rfl)), rfl, rfl⟩) ?_
  refine am_blk (pc' := 39) (Ls' := [.val (.ref 0), .val (.int x1), .val (.int x2), .val (.int x3)]) (St' := [.int (40 : Int32), .ref 0]) (σ' := zs) [.aload_n 0, .bipush 40] (by decide +kernel) hc hT hF wi (by exact rfl) ?_
  refine am_newarr (a := 4) (n := 40) (aty := .boolean) (by decide +kernel) hc (hw _ (List.mem_of_getElem? (i := 26) rfl)) rfl (by decide) rfl ⟨rfl, rfl⟩ hAE4 hn ⟨by decide, by decide, by decide⟩ (fun A hAE5 => ?_)
  refine am_putref (a := 4) (j := 4) (by decide +kernel) hc hF wi rfl (by decide) (hw _ (List.mem_of_getElem? (i := 27) rfl)) (Or.inr ⟨(hw _ (List.mem_of_getElem? (i := 28) rfl)), rfl, rfl⟩) ?_
  refine am_blk (pc' := 47) (Ls' := [.val (.ref 0), .val (.int x1), .val (.int x2), .val (.int x3)]) (St' := [.int (80 : Int32), .ref 0]) (σ' := zs) [.aload_n 0, .bipush 80] (by decide +kernel) hc hT hF wi (by exact rfl) ?_
  refine am_newarr (a := 5) (n := 80) (aty := .int) (by decide +kernel) hc (hw _ (List.mem_of_getElem? (i := 17) rfl)) rfl (by decide) rfl ⟨rfl, rfl⟩ hAE5 hn ⟨by decide, by decide, by decide⟩ (fun A hAE6 => ?_)
  refine am_putref (a := 5) (j := 5) (by decide +kernel) hc hF wi rfl (by decide) (hw _ (List.mem_of_getElem? (i := 29) rfl)) (Or.inr ⟨(hw _ (List.mem_of_getElem? (i := 30) rfl)), rfl, rfl⟩) ?_
  refine am_blk (pc' := 55) (Ls' := [.val (.ref 0), .val (.int x1), .val (.int x2), .val (.int x3)]) (St' := [.int (80 : Int32), .ref 0]) (σ' := zs) [.aload_n 0, .bipush 80] (by decide +kernel) hc hT hF wi (by exact rfl) ?_
  refine am_newarr (a := 6) (n := 80) (aty := .int) (by decide +kernel) hc (hw _ (List.mem_of_getElem? (i := 17) rfl)) rfl (by decide) rfl ⟨rfl, rfl⟩ hAE6 hn ⟨by decide, by decide, by decide⟩ (fun A hAE7 => ?_)
  refine am_putref (a := 6) (j := 6) (by decide +kernel) hc hF wi rfl (by decide) (hw _ (List.mem_of_getElem? (i := 31) rfl)) (Or.inr ⟨(hw _ (List.mem_of_getElem? (i := 32) rfl)), rfl, rfl⟩) ?_
  refine am_blk (pc' := 63) (Ls' := [.val (.ref 0), .val (.int x1), .val (.int x2), .val (.int x3)]) (St' := [.int (80 : Int32), .ref 0]) (σ' := zs) [.aload_n 0, .bipush 80] (by decide +kernel) hc hT hF wi (by exact rfl) ?_
  refine am_newarr (a := 7) (n := 80) (aty := .boolean) (by decide +kernel) hc (hw _ (List.mem_of_getElem? (i := 26) rfl)) rfl (by decide) rfl ⟨rfl, rfl⟩ hAE7 hn ⟨by decide, by decide, by decide⟩ (fun A hAE8 => ?_)
  refine am_putref (a := 7) (j := 7) (by decide +kernel) hc hF wi rfl (by decide) (hw _ (List.mem_of_getElem? (i := 33) rfl)) (Or.inr ⟨(hw _ (List.mem_of_getElem? (i := 34) rfl)), rfl, rfl⟩) ?_
  refine am_blk (pc' := 71) (Ls' := [.val (.ref 0), .val (.int x1), .val (.int x2), .val (.int x3)]) (St' := [.int (40 : Int32), .ref 0]) (σ' := zs) [.aload_n 0, .bipush 40] (by decide +kernel) hc hT hF wi (by exact rfl) ?_
  refine am_newarr (a := 8) (n := 40) (aty := .long) (by decide +kernel) hc (hw _ (List.mem_of_getElem? (i := 35) rfl)) rfl (by decide) rfl ⟨rfl, rfl⟩ hAE8 hn ⟨by decide, by decide, by decide⟩ (fun A hAE9 => ?_)
  refine am_putref (a := 8) (j := 8) (by decide +kernel) hc hF wi rfl (by decide) (hw _ (List.mem_of_getElem? (i := 36) rfl)) (Or.inr ⟨(hw _ (List.mem_of_getElem? (i := 37) rfl)), rfl, rfl⟩) ?_
  refine am_blk (pc' := 82) (Ls' := [.val (.ref 0), .val (.int x1), .val (.int x2), .val (.int x3)]) (St' := [.int (8 : Int32), .int (1 : Int32), .int x1, .ref 0, .ref 0]) (σ' := zs) [.aload_n 0, .aload_n 0, .iload_n 1, .iconst 1, .bipush 8] (by decide +kernel) hc hT hF wi (by exact rfl) ?_
  refine am_callP_I (W0 := 1) (argsL := [.int x1, .int (1 : Int32), .int (8 : Int32)]) (rest := [.ref 0]) rfl (lk_C_39 hw) rfl wi (by decide +kernel) hc (SubW.refl _) rfl (by show arity "(III)I" 3 = true; decide +kernel) (ok_c_clamp hw x1 (1 : Int32) (8 : Int32) _) rfl ⟨by decide, by decide, Nat.le_of_eq rfl, rfl, rfl, by decide, by decide⟩ (fun r1 hr => ?_)
  refine am_blk (pc' := 95) (Ls' := [.val (.ref 0), .val (.int x1), .val (.int x2), .val (.int x3)]) (St' := [.int (32 : Int32), .int (8 : Int32), .int x2, .ref 0, .ref 0]) (σ' := si r1.2 0 9 r1.1) [.putfield 43, .aload_n 0, .aload_n 0, .iload_n 2, .bipush 8, .bipush 32] (by decide +kernel) hc hT hF wi (by exact rfl) ?_
  refine am_callP_I (W0 := 1) (argsL := [.int x2, .int (8 : Int32), .int (32 : Int32)]) (rest := [.ref 0]) rfl (lk_C_39 hw) rfl wi (by decide +kernel) hc (SubW.refl _) rfl (by show arity "(III)I" 3 = true; decide +kernel) (ok_c_clamp hw x2 (8 : Int32) (32 : Int32) _) rfl ⟨by decide, by decide, Nat.le_of_eq rfl, rfl, rfl, by decide, by decide⟩ (fun r2 hr => ?_)
  refine am_blk (pc' := 107) (Ls' := [.val (.ref 0), .val (.int x1), .val (.int x2), .val (.int x3)]) (St' := [.int (16 : Int32), .int (1 : Int32), .int x3, .ref 0, .ref 0]) (σ' := si r2.2 0 10 r2.1) [.putfield 47, .aload_n 0, .aload_n 0, .iload_n 3, .iconst 1, .bipush 16] (by decide +kernel) hc hT hF wi (by exact rfl) ?_
  refine am_callP_I (W0 := 1) (argsL := [.int x3, .int (1 : Int32), .int (16 : Int32)]) (rest := [.ref 0]) rfl (lk_C_39 hw) rfl wi (by decide +kernel) hc (SubW.refl _) rfl (by show arity "(III)I" 3 = true; decide +kernel) (ok_c_clamp hw x3 (1 : Int32) (16 : Int32) _) rfl ⟨by decide, by decide, Nat.le_of_eq rfl, rfl, rfl, by decide, by decide⟩ (fun r3 hr => ?_)
  refine am_blk (pc' := 150) (Ls' := [.val (.ref 0), .val (.int x1), .val (.int x2), .val (.int x3)]) (St' := [.ref 0]) (σ' := si (si (si (si (si (si r3.2 0 11 r3.1) 0 12 (((1 : Int32) <<< (r3.1 &&& 31)) - (1 : Int32))) 0 13 (0 : Int32)) 0 14 (0 : Int32)) 0 15 (44257 : Int32)) 0 16 (((1 : Int32) <<< (r3.1 &&& 31)) - (1 : Int32))) [.putfield 50, .aload_n 0, .iconst 1, .aload_n 0, .getfield 50, .ishl, .iconst 1, .isub, .putfield 53, .aload_n 0, .iconst 0, .putfield 56, .aload_n 0, .iconst 0, .putfield 59, .aload_n 0, .ldc 62, .putfield 63, .aload_n 0, .aload_n 0, .getfield 53, .putfield 66, .aload_n 0] (by decide +kernel) hc hT hF wi (by exact rfl) ?_
  refine am_callP_V (W0 := 0) (argsL := []) (rest := []) rfl (lk_C_69 hw) rfl wi (by decide +kernel) hc (SubW.refl _) rfl (by show arity "()V" 0 = true; decide +kernel) (ok_c_clearSession hw _) rfl ⟨by decide, by decide, Nat.le_of_eq rfl, rfl, rfl, by decide, by decide⟩ (fun r4 hr => ?_)
  exact am_retV (by decide +kernel) hc (by decide) (by decide) (fun h W O => FI_of hAE9 h W O)
abbrev rm_c_isGateKind : Room := { frames := 0, cells := 0, slots := 0, locals := 0 }
def c_isGateKind (x1 : Int32) (σ : Sg) : Option (Int32 × Sg) :=
  if x1 < 0 then (some ((0 : Int32), σ)) else (if (7 : Int32) < x1 then (some ((0 : Int32), σ)) else (some ((1 : Int32), σ)))
set_option maxRecDepth 65536 in
set_option maxHeartbeats 4000000 in
theorem ok_c_isGateKind (hw : WH a0 Z) (x1 : Int32) (σ : Sg) : ∀ x, c_isGateKind x1 σ = some x → Con l Z "LogicBist" fsC (⟨"LogicBist", "isGateKind", "(I)Z"⟩ : MethodName) prog_1_method_42_code 2 (some .boolean) rm_c_isGateKind wC [.ref 0, .int x1] σ (fI x).1 (fI x).2 := by
  refine am_con pnC ?_
  intro p e s m below meth c A n0 h0 hc
  have hT := tabC hw "isGateKind"
  have hF := fsokC hw
  have wi := wiC hw
  unfold c_isGateKind
  refine am_blk (pc' := 1) (Ls' := [.val (.ref 0), .val (.int x1)]) (St' := [.int x1]) (σ' := σ) [.iload_n 1] (by decide +kernel) hc hT hF wi (by exact rfl) ?_
  refine am_if_lt (o := 13) (pc1 := 14) (by decide +kernel) hc (fun hq => ?_) (fun hq => ?_)
  · refine am_blk (pc' := 15) (Ls' := [.val (.ref 0), .val (.int x1)]) (St' := [.int (0 : Int32)]) (σ' := σ) [.iconst 0] (by decide +kernel) hc hT hF wi (by exact rfl) ?_
    exact am_retZ (by decide +kernel) hc (by decide) (by decide) (fun h W O => ⟨rfl, W, O⟩)
  · refine am_blk (pc' := 7) (Ls' := [.val (.ref 0), .val (.int x1)]) (St' := [.int (7 : Int32), .int x1]) (σ' := σ) [.iload_n 1, .bipush 7] (by decide +kernel) hc hT hF wi (by exact rfl) ?_
    refine am_icmp_gt (o := 7) (pc1 := 14) (by decide +kernel) hc (fun hq => ?_) (fun hq => ?_)
    · refine am_blk (pc' := 15) (Ls' := [.val (.ref 0), .val (.int x1)]) (St' := [.int (0 : Int32)]) (σ' := σ) [.iconst 0] (by decide +kernel) hc hT hF wi (by exact rfl) ?_
      exact am_retZ (by decide +kernel) hc (by decide) (by decide) (fun h W O => ⟨rfl, W, O⟩)
    · refine am_blk (pc' := 15) (Ls' := [.val (.ref 0), .val (.int x1)]) (St' := [.int (1 : Int32)]) (σ' := σ) [.iconst 1, .goto 4] (by decide +kernel) hc hT hF wi (by exact rfl) ?_
      exact am_retZ (by decide +kernel) hc (by decide) (by decide) (fun h W O => ⟨rfl, W, O⟩)
abbrev rm_c_signalCount : Room := { frames := 0, cells := 0, slots := 0, locals := 0 }
def c_signalCount (σ : Sg) : Option (Int32 × Sg) :=
  some ((gi σ 0 9) + (gi σ 0 13), σ)
set_option maxRecDepth 65536 in
set_option maxHeartbeats 4000000 in
theorem ok_c_signalCount (hw : WH a0 Z) (σ : Sg) : ∀ x, c_signalCount σ = some x → Con l Z "LogicBist" fsC (⟨"LogicBist", "signalCount", "()I"⟩ : MethodName) prog_1_method_32_code 1 (some .int) rm_c_signalCount wC [.ref 0] σ (fI x).1 (fI x).2 := by
  refine am_con pnC ?_
  intro p e s m below meth c A n0 h0 hc
  have hT := tabC hw "signalCount"
  have hF := fsokC hw
  have wi := wiC hw
  unfold c_signalCount
  refine am_blk (pc' := 9) (Ls' := [.val (.ref 0)]) (St' := [.int ((gi σ 0 9) + (gi σ 0 13))]) (σ' := σ) [.aload_n 0, .getfield 43, .aload_n 0, .getfield 56, .iadd] (by decide +kernel) hc hT hF wi (by exact rfl) ?_
  exact am_retI (by decide +kernel) hc (by decide) (by decide) (fun h W O => ⟨rfl, W, O⟩)
abbrev rm_c_isSignal : Room := { frames := 1, cells := 0, slots := 0, locals := 13 }
def c_isSignal (x1 : Int32) (σ : Sg) : Option (Int32 × Sg) :=
  if x1 < 0 then (some ((0 : Int32), σ)) else ((c_signalCount σ).bind fun r1 => if x1 < r1.1 then (some ((1 : Int32), r1.2)) else (some ((0 : Int32), r1.2)))
set_option maxRecDepth 65536 in
set_option maxHeartbeats 4000000 in
theorem ok_c_isSignal (hw : WH a0 Z) (x1 : Int32) (σ : Sg) : ∀ x, c_isSignal x1 σ = some x → Con l Z "LogicBist" fsC (⟨"LogicBist", "isSignal", "(I)Z"⟩ : MethodName) prog_1_method_40_code 2 (some .boolean) rm_c_isSignal wC [.ref 0, .int x1] σ (fI x).1 (fI x).2 := by
  refine am_con pnC ?_
  intro p e s m below meth c A n0 h0 hc
  have hT := tabC hw "isSignal"
  have hF := fsokC hw
  have wi := wiC hw
  unfold c_isSignal
  refine am_blk (pc' := 1) (Ls' := [.val (.ref 0), .val (.int x1)]) (St' := [.int x1]) (σ' := σ) [.iload_n 1] (by decide +kernel) hc hT hF wi (by exact rfl) ?_
  refine am_if_lt (o := 15) (pc1 := 16) (by decide +kernel) hc (fun hq => ?_) (fun hq => ?_)
  · refine am_blk (pc' := 17) (Ls' := [.val (.ref 0), .val (.int x1)]) (St' := [.int (0 : Int32)]) (σ' := σ) [.iconst 0] (by decide +kernel) hc hT hF wi (by exact rfl) ?_
    exact am_retZ (by decide +kernel) hc (by decide) (by decide) (fun h W O => ⟨rfl, W, O⟩)
  · refine am_blk (pc' := 6) (Ls' := [.val (.ref 0), .val (.int x1)]) (St' := [.ref 0, .int x1]) (σ' := σ) [.iload_n 1, .aload_n 0] (by decide +kernel) hc hT hF wi (by exact rfl) ?_
    refine am_callP_I (W0 := 1) (argsL := []) (rest := [.int x1]) rfl (lk_C_146 hw) rfl wi (by decide +kernel) hc (SubW.refl _) rfl (by show arity "()I" 0 = true; decide +kernel) (ok_c_signalCount hw _) rfl ⟨by decide, by decide, Nat.le_of_eq rfl, rfl, rfl, by decide, by decide⟩ (fun r1 hr => ?_)
    refine am_icmp_ge (o := 7) (pc1 := 16) (by decide +kernel) hc (fun hq => ?_) (fun hq => ?_)
    · refine am_blk (pc' := 17) (Ls' := [.val (.ref 0), .val (.int x1)]) (St' := [.int (1 : Int32)]) (σ' := r1.2) [.iconst 1, .goto 4] (by decide +kernel) hc hT hF wi (by exact rfl) ?_
      exact am_retZ (by decide +kernel) hc (by decide) (by decide) (fun h W O => ⟨rfl, W, O⟩)
    · refine am_blk (pc' := 17) (Ls' := [.val (.ref 0), .val (.int x1)]) (St' := [.int (0 : Int32)]) (σ' := r1.2) [.iconst 0] (by decide +kernel) hc hT hF wi (by exact rfl) ?_
      exact am_retZ (by decide +kernel) hc (by decide) (by decide) (fun h W O => ⟨rfl, W, O⟩)
abbrev rm_c_isTwoOperand : Room := { frames := 0, cells := 0, slots := 0, locals := 0 }
def c_isTwoOperand (x1 : Int32) (σ : Sg) : Option (Int32 × Sg) :=
  if x1 < 0 then (some ((0 : Int32), σ)) else (if (5 : Int32) < x1 then (some ((0 : Int32), σ)) else (some ((1 : Int32), σ)))
set_option maxRecDepth 65536 in
set_option maxHeartbeats 4000000 in
theorem ok_c_isTwoOperand (hw : WH a0 Z) (x1 : Int32) (σ : Sg) : ∀ x, c_isTwoOperand x1 σ = some x → Con l Z "LogicBist" fsC (⟨"LogicBist", "isTwoOperand", "(I)Z"⟩ : MethodName) prog_1_method_43_code 2 (some .boolean) rm_c_isTwoOperand wC [.ref 0, .int x1] σ (fI x).1 (fI x).2 := by
  refine am_con pnC ?_
  intro p e s m below meth c A n0 h0 hc
  have hT := tabC hw "isTwoOperand"
  have hF := fsokC hw
  have wi := wiC hw
  unfold c_isTwoOperand
  refine am_blk (pc' := 1) (Ls' := [.val (.ref 0), .val (.int x1)]) (St' := [.int x1]) (σ' := σ) [.iload_n 1] (by decide +kernel) hc hT hF wi (by exact rfl) ?_
  refine am_if_lt (o := 12) (pc1 := 13) (by decide +kernel) hc (fun hq => ?_) (fun hq => ?_)
  · refine am_blk (pc' := 14) (Ls' := [.val (.ref 0), .val (.int x1)]) (St' := [.int (0 : Int32)]) (σ' := σ) [.iconst 0] (by decide +kernel) hc hT hF wi (by exact rfl) ?_
    exact am_retZ (by decide +kernel) hc (by decide) (by decide) (fun h W O => ⟨rfl, W, O⟩)
  · refine am_blk (pc' := 6) (Ls' := [.val (.ref 0), .val (.int x1)]) (St' := [.int (5 : Int32), .int x1]) (σ' := σ) [.iload_n 1, .iconst 5] (by decide +kernel) hc hT hF wi (by exact rfl) ?_
    refine am_icmp_gt (o := 7) (pc1 := 13) (by decide +kernel) hc (fun hq => ?_) (fun hq => ?_)
    · refine am_blk (pc' := 14) (Ls' := [.val (.ref 0), .val (.int x1)]) (St' := [.int (0 : Int32)]) (σ' := σ) [.iconst 0] (by decide +kernel) hc hT hF wi (by exact rfl) ?_
      exact am_retZ (by decide +kernel) hc (by decide) (by decide) (fun h W O => ⟨rfl, W, O⟩)
    · refine am_blk (pc' := 14) (Ls' := [.val (.ref 0), .val (.int x1)]) (St' := [.int (1 : Int32)]) (σ' := σ) [.iconst 1, .goto 4] (by decide +kernel) hc hT hF wi (by exact rfl) ?_
      exact am_retZ (by decide +kernel) hc (by decide) (by decide) (fun h W O => ⟨rfl, W, O⟩)
abbrev rm_c_appendGate : Room := { frames := 1, cells := 0, slots := 0, locals := 13 }
def c_appendGate (x1 : Int32) (x2 : Int32) (x3 : Int32) (σ : Sg) : Option (Int32 × Sg) :=
  if (gi σ 0 13) < 0 then (some ((-1 : Int32), σ)) else (if (gi σ 0 13) < (32 : Int32) then (if inb (gi σ 0 13) 32 = true then ((c_resetFault ((2 : Int32) * ((gi σ 0 9) + (gi σ 0 13))) (si (si (si (si σ 1 (nx (gi σ 0 13)) x1) 2 (nx (gi σ 0 13)) x2) 3 (nx (gi σ 0 13)) x3) 0 13 ((gi σ 0 13) + (1 : Int32)))).bind fun r1 => (c_resetFault (((2 : Int32) * ((gi σ 0 9) + (gi σ 0 13))) + (1 : Int32)) r1).bind fun r2 => some ((gi σ 0 9) + (gi σ 0 13), r2)) else none) else (some ((-1 : Int32), σ)))
set_option maxRecDepth 65536 in
set_option maxHeartbeats 4000000 in
theorem ok_c_appendGate (hw : WH a0 Z) (x1 : Int32) (x2 : Int32) (x3 : Int32) (σ : Sg) : ∀ x, c_appendGate x1 x2 x3 σ = some x → Con l Z "LogicBist" fsC (⟨"LogicBist", "appendGate", "(III)I"⟩ : MethodName) prog_1_method_20_code 6 (some .int) rm_c_appendGate wC [.ref 0, .int x1, .int x2, .int x3] σ (fI x).1 (fI x).2 := by
  refine am_con pnC ?_
  intro p e s m below meth c A n0 h0 hc
  have hT := tabC hw "appendGate"
  have hF := fsokC hw
  have wi := wiC hw
  unfold c_appendGate
  refine am_blk (pc' := 8) (Ls' := [.val (.ref 0), .val (.int x1), .val (.int x2), .val (.int x3), .val (.int (gi σ 0 13)), .unset]) (St' := [.int (gi σ 0 13)]) (σ' := σ) [.aload_n 0, .getfield 56, .istore 4, .iload 4] (by decide +kernel) hc hT hF wi (by exact rfl) ?_
  refine am_if_lt (o := 10) (pc1 := 18) (by decide +kernel) hc (fun hq => ?_) (fun hq => ?_)
  · refine am_blk (pc' := 19) (Ls' := [.val (.ref 0), .val (.int x1), .val (.int x2), .val (.int x3), .val (.int (gi σ 0 13)), .unset]) (St' := [.int (-1 : Int32)]) (σ' := σ) [.iconst (-1)] (by decide +kernel) hc hT hF wi (by exact rfl) ?_
    exact am_retI (by decide +kernel) hc (by decide) (by decide) (fun h W O => ⟨rfl, W, O⟩)
  · refine am_blk (pc' := 15) (Ls' := [.val (.ref 0), .val (.int x1), .val (.int x2), .val (.int x3), .val (.int (gi σ 0 13)), .unset]) (St' := [.int (32 : Int32), .int (gi σ 0 13)]) (σ' := σ) [.iload 4, .bipush 32] (by decide +kernel) hc hT hF wi (by exact rfl) ?_
    refine am_icmp_lt (o := 5) (pc1 := 20) (by decide +kernel) hc (fun hq => ?_) (fun hq => ?_)
    · refine am_blk (pc' := 27) (Ls' := [.val (.ref 0), .val (.int x1), .val (.int x2), .val (.int x3), .val (.int (gi σ 0 13)), .unset]) (St' := [.int x1, .int (gi σ 0 13), .ref 1]) (σ' := σ) [.aload_n 0, .getfield 7, .iload 4, .iload_n 1] (by decide +kernel) hc hT hF wi (by exact rfl) ?_
      refine am_iastore (y := x1) rfl (by decide +kernel) hc rfl (fun hb0 => ?_)
      refine am_blk (pc' := 35) (Ls' := [.val (.ref 0), .val (.int x1), .val (.int x2), .val (.int x3), .val (.int (gi σ 0 13)), .unset]) (St' := [.int x2, .int (gi σ 0 13), .ref 2]) (σ' := si σ 1 (nx (gi σ 0 13)) x1) [.aload_n 0, .getfield 13, .iload 4, .iload_n 2] (by decide +kernel) hc hT hF wi (by exact rfl) ?_
      refine am_iastore_k hb0 (y := x2) rfl (by decide +kernel) hc rfl ?_
      refine am_blk (pc' := 43) (Ls' := [.val (.ref 0), .val (.int x1), .val (.int x2), .val (.int x3), .val (.int (gi σ 0 13)), .unset]) (St' := [.int x3, .int (gi σ 0 13), .ref 3]) (σ' := si (si σ 1 (nx (gi σ 0 13)) x1) 2 (nx (gi σ 0 13)) x2) [.aload_n 0, .getfield 16, .iload 4, .iload_n 3] (by decide +kernel) hc hT hF wi (by exact rfl) ?_
      refine am_iastore_k hb0 (y := x3) rfl (by decide +kernel) hc rfl ?_
      refine am_blk (pc' := 66) (Ls' := [.val (.ref 0), .val (.int x1), .val (.int x2), .val (.int x3), .val (.int (gi σ 0 13)), .val (.int ((gi σ 0 9) + (gi σ 0 13)))]) (St' := [.int ((2 : Int32) * ((gi σ 0 9) + (gi σ 0 13))), .ref 0]) (σ' := si (si (si (si σ 1 (nx (gi σ 0 13)) x1) 2 (nx (gi σ 0 13)) x2) 3 (nx (gi σ 0 13)) x3) 0 13 ((gi σ 0 13) + (1 : Int32))) [.aload_n 0, .iload 4, .iconst 1, .iadd, .putfield 56, .aload_n 0, .getfield 43, .iload 4, .iadd, .istore 5, .aload_n 0, .iconst 2, .iload 5, .imul] (by decide +kernel) hc hT hF wi (by exact rfl) ?_
      refine am_callP_V (W0 := 0) (argsL := [.int ((2 : Int32) * ((gi σ 0 9) + (gi σ 0 13)))]) (rest := []) rfl (lk_C_122 hw) rfl wi (by decide +kernel) hc (SubW.refl _) rfl (by show arity "(I)V" 1 = true; decide +kernel) (ok_c_resetFault hw ((2 : Int32) * ((gi σ 0 9) + (gi σ 0 13))) _) rfl ⟨by decide, by decide, Nat.le_of_eq rfl, rfl, rfl, by decide, by decide⟩ (fun r1 hr => ?_)
      refine am_blk (pc' := 76) (Ls' := [.val (.ref 0), .val (.int x1), .val (.int x2), .val (.int x3), .val (.int (gi σ 0 13)), .val (.int ((gi σ 0 9) + (gi σ 0 13)))]) (St' := [.int (((2 : Int32) * ((gi σ 0 9) + (gi σ 0 13))) + (1 : Int32)), .ref 0]) (σ' := r1) [.aload_n 0, .iconst 2, .iload 5, .imul, .iconst 1, .iadd] (by decide +kernel) hc hT hF wi (by exact rfl) ?_
      refine am_callP_V (W0 := 0) (argsL := [.int (((2 : Int32) * ((gi σ 0 9) + (gi σ 0 13))) + (1 : Int32))]) (rest := []) rfl (lk_C_122 hw) rfl wi (by decide +kernel) hc (SubW.refl _) rfl (by show arity "(I)V" 1 = true; decide +kernel) (ok_c_resetFault hw (((2 : Int32) * ((gi σ 0 9) + (gi σ 0 13))) + (1 : Int32)) _) rfl ⟨by decide, by decide, Nat.le_of_eq rfl, rfl, rfl, by decide, by decide⟩ (fun r2 hr => ?_)
      refine am_blk (pc' := 81) (Ls' := [.val (.ref 0), .val (.int x1), .val (.int x2), .val (.int x3), .val (.int (gi σ 0 13)), .val (.int ((gi σ 0 9) + (gi σ 0 13)))]) (St' := [.int ((gi σ 0 9) + (gi σ 0 13))]) (σ' := r2) [.iload 5] (by decide +kernel) hc hT hF wi (by exact rfl) ?_
      exact am_retI (by decide +kernel) hc (by decide) (by decide) (fun h W O => ⟨rfl, W, O⟩)
    · refine am_blk (pc' := 19) (Ls' := [.val (.ref 0), .val (.int x1), .val (.int x2), .val (.int x3), .val (.int (gi σ 0 13)), .unset]) (St' := [.int (-1 : Int32)]) (σ' := σ) [.iconst (-1)] (by decide +kernel) hc hT hF wi (by exact rfl) ?_
      exact am_retI (by decide +kernel) hc (by decide) (by decide) (fun h W O => ⟨rfl, W, O⟩)
abbrev rm_c_addGate : Room := { frames := 2, cells := 0, slots := 0, locals := 30 }
def c_addGate_77 (s0 : Int32) (s1 : Int32) (s2 : Int32) (σ : Sg) : Option (Int32 × Sg) :=
  (c_appendGate s2 s1 s0 σ).bind fun r1 => some (r1.1, r1.2)
set_option maxRecDepth 65536 in
set_option maxHeartbeats 4000000 in
theorem okc_c_addGate_77 (hw : WH a0 Z) (hc : Cx p s m meth c Z "LogicBist" prog_1_method_2_code 5 (some .int) "addGate") (s0 : Int32) (s1 : Int32) (s2 : Int32) (σ : Sg) : OkR p l e rm_c_addGate s m args below meth c Z "LogicBist" fsC n0 h0 (FM Z "LogicBist" fsC A wC h0 fI) A wC 0 0 77 [.unset, .unset, .unset, .unset, .unset] [.int s0, .int s1, .int s2, .ref 0] σ (c_addGate_77 s0 s1 s2 σ) := by
  have hT := tabC hw "addGate"
  have hF := fsokC hw
  have wi := wiC hw
  unfold c_addGate_77
  refine am_callP_I (W0 := 0) (argsL := [.int s2, .int s1, .int s0]) (rest := []) rfl (lk_C_85 hw) rfl wi (by decide +kernel) hc (SubW.refl _) rfl (by show arity "(III)I" 3 = true; decide +kernel) (ok_c_appendGate hw s2 s1 s0 _) rfl ⟨by decide, by decide, Nat.le_of_eq rfl, rfl, rfl, by decide, by decide⟩ (fun r1 hr => ?_)
  exact am_retI (by decide +kernel) hc (by decide) (by decide) (fun h W O => ⟨rfl, W, O⟩)
def c_addGate_64 (x1 : Int32) (x2 : Int32) (x3 : Int32) (x4 : Int32) (σ : Sg) : Option (Int32 × Sg) :=
  if x4 = 0 then (c_addGate_77 x2 x2 x1 σ) else (c_addGate_77 x3 x2 x1 σ)
set_option maxRecDepth 65536 in
set_option maxHeartbeats 4000000 in
theorem okc_c_addGate_64 (hw : WH a0 Z) (hc : Cx p s m meth c Z "LogicBist" prog_1_method_2_code 5 (some .int) "addGate") (x1 : Int32) (x2 : Int32) (x3 : Int32) (x4 : Int32) (σ : Sg) : OkR p l e rm_c_addGate s m args below meth c Z "LogicBist" fsC n0 h0 (FM Z "LogicBist" fsC A wC h0 fI) A wC 0 0 64 [.val (.ref 0), .val (.int x1), .val (.int x2), .val (.int x3), .val (.int x4)] [] σ (c_addGate_64 x1 x2 x3 x4 σ) := by
  have hT := tabC hw "addGate"
  have hF := fsokC hw
  have wi := wiC hw
  unfold c_addGate_64
  refine am_blk (pc' := 69) (Ls' := [.val (.ref 0), .val (.int x1), .val (.int x2), .val (.int x3), .val (.int x4)]) (St' := [.int x4, .int x2, .int x1, .ref 0]) (σ' := σ) [.aload_n 0, .iload_n 1, .iload_n 2, .iload 4] (by decide +kernel) hc hT hF wi (by exact rfl) ?_
  refine am_if_eq (o := 7) (pc1 := 76) (by decide +kernel) hc (fun hq => ?_) (fun hq => ?_)
  · refine am_blk (pc' := 77) (Ls' := [.val (.ref 0), .val (.int x1), .val (.int x2), .val (.int x3), .val (.int x4)]) (St' := [.int x2, .int x2, .int x1, .ref 0]) (σ' := σ) [.iload_n 2] (by decide +kernel) hc hT hF wi (by exact rfl) ?_
    exact am_wk (Ls' := [.unset, .unset, .unset, .unset, .unset]) (by simp [wkL]) (okc_c_addGate_77 hw hc x2 x2 x1 σ)
  · refine am_blk (pc' := 77) (Ls' := [.val (.ref 0), .val (.int x1), .val (.int x2), .val (.int x3), .val (.int x4)]) (St' := [.int x3, .int x2, .int x1, .ref 0]) (σ' := σ) [.iload_n 3, .goto 4] (by decide +kernel) hc hT hF wi (by exact rfl) ?_
    exact am_wk (Ls' := [.unset, .unset, .unset, .unset, .unset]) (by simp [wkL]) (okc_c_addGate_77 hw hc x3 x2 x1 σ)
def c_addGate (x1 : Int32) (x2 : Int32) (x3 : Int32) (σ : Sg) : Option (Int32 × Sg) :=
  if 0 < (gi σ 0 17) then (some ((-1 : Int32), σ)) else (if (gi σ 0 13) < (gi σ 0 10) then ((c_isGateKind x1 σ).bind fun r1 => if r1.1 = 0 then (some ((-1 : Int32), r1.2)) else ((c_isSignal x2 r1.2).bind fun r2 => if r2.1 = 0 then (some ((-1 : Int32), r2.2)) else ((c_isTwoOperand x1 r2.2).bind fun r3 => if r3.1 = 0 then (c_addGate_64 x1 x2 x3 r3.1 r3.2) else ((c_isSignal x3 r3.2).bind fun r4 => if r4.1 = 0 then (some ((-1 : Int32), r4.2)) else (c_addGate_64 x1 x2 x3 r3.1 r4.2))))) else (some ((-1 : Int32), σ)))
set_option maxRecDepth 65536 in
set_option maxHeartbeats 4000000 in
theorem ok_c_addGate (hw : WH a0 Z) (x1 : Int32) (x2 : Int32) (x3 : Int32) (σ : Sg) : ∀ x, c_addGate x1 x2 x3 σ = some x → Con l Z "LogicBist" fsC (⟨"LogicBist", "addGate", "(III)I"⟩ : MethodName) prog_1_method_2_code 5 (some .int) rm_c_addGate wC [.ref 0, .int x1, .int x2, .int x3] σ (fI x).1 (fI x).2 := by
  refine am_con pnC ?_
  intro p e s m below meth c A n0 h0 hc
  have hT := tabC hw "addGate"
  have hF := fsokC hw
  have wi := wiC hw
  unfold c_addGate
  refine am_blk (pc' := 4) (Ls' := [.val (.ref 0), .val (.int x1), .val (.int x2), .val (.int x3), .unset]) (St' := [.int (gi σ 0 17)]) (σ' := σ) [.aload_n 0, .getfield 72] (by decide +kernel) hc hT hF wi (by exact rfl) ?_
  refine am_if_le (o := 5) (pc1 := 9) (by decide +kernel) hc (fun hq => ?_) (fun hq => ?_)
  · refine am_blk (pc' := 8) (Ls' := [.val (.ref 0), .val (.int x1), .val (.int x2), .val (.int x3), .unset]) (St' := [.int (-1 : Int32)]) (σ' := σ) [.iconst (-1)] (by decide +kernel) hc hT hF wi (by exact rfl) ?_
    exact am_retI (by decide +kernel) hc (by decide) (by decide) (fun h W O => ⟨rfl, W, O⟩)
  · refine am_blk (pc' := 17) (Ls' := [.val (.ref 0), .val (.int x1), .val (.int x2), .val (.int x3), .unset]) (St' := [.int (gi σ 0 10), .int (gi σ 0 13)]) (σ' := σ) [.aload_n 0, .getfield 56, .aload_n 0, .getfield 47] (by decide +kernel) hc hT hF wi (by exact rfl) ?_
    refine am_icmp_lt (o := 5) (pc1 := 22) (by decide +kernel) hc (fun hq => ?_) (fun hq => ?_)
    · refine am_blk (pc' := 24) (Ls' := [.val (.ref 0), .val (.int x1), .val (.int x2), .val (.int x3), .unset]) (St' := [.int x1, .ref 0]) (σ' := σ) [.aload_n 0, .iload_n 1] (by decide +kernel) hc hT hF wi (by exact rfl) ?_
      refine am_callP_I (W0 := 0) (argsL := [.int x1]) (rest := []) rfl (lk_C_75 hw) rfl wi (by decide +kernel) hc (SubW.refl _) rfl (by show arity "(I)Z" 1 = true; decide +kernel) (ok_c_isGateKind hw x1 _) rfl ⟨by decide, by decide, Nat.le_of_eq rfl, rfl, rfl, by decide, by decide⟩ (fun r1 hr => ?_)
      refine am_if_ne (o := 5) (pc1 := 32) (by decide +kernel) hc (fun hq => ?_) (fun hq => ?_)
      · refine am_blk (pc' := 31) (Ls' := [.val (.ref 0), .val (.int x1), .val (.int x2), .val (.int x3), .unset]) (St' := [.int (-1 : Int32)]) (σ' := r1.2) [.iconst (-1)] (by decide +kernel) hc hT hF wi (by exact rfl) ?_
        exact am_retI (by decide +kernel) hc (by decide) (by decide) (fun h W O => ⟨rfl, W, O⟩)
      · refine am_blk (pc' := 34) (Ls' := [.val (.ref 0), .val (.int x1), .val (.int x2), .val (.int x3), .unset]) (St' := [.int x2, .ref 0]) (σ' := r1.2) [.aload_n 0, .iload_n 2] (by decide +kernel) hc hT hF wi (by exact rfl) ?_
        refine am_callP_I (W0 := 0) (argsL := [.int x2]) (rest := []) rfl (lk_C_79 hw) rfl wi (by decide +kernel) hc (SubW.refl _) rfl (by show arity "(I)Z" 1 = true; decide +kernel) (ok_c_isSignal hw x2 _) rfl ⟨by decide, by decide, Nat.le_of_eq rfl, rfl, rfl, by decide, by decide⟩ (fun r2 hr => ?_)
        refine am_if_ne (o := 5) (pc1 := 42) (by decide +kernel) hc (fun hq => ?_) (fun hq => ?_)
        · refine am_blk (pc' := 41) (Ls' := [.val (.ref 0), .val (.int x1), .val (.int x2), .val (.int x3), .unset]) (St' := [.int (-1 : Int32)]) (σ' := r2.2) [.iconst (-1)] (by decide +kernel) hc hT hF wi (by exact rfl) ?_
          exact am_retI (by decide +kernel) hc (by decide) (by decide) (fun h W O => ⟨rfl, W, O⟩)
        · refine am_blk (pc' := 44) (Ls' := [.val (.ref 0), .val (.int x1), .val (.int x2), .val (.int x3), .unset]) (St' := [.int x1, .ref 0]) (σ' := r2.2) [.aload_n 0, .iload_n 1] (by decide +kernel) hc hT hF wi (by exact rfl) ?_
          refine am_callP_I (W0 := 0) (argsL := [.int x1]) (rest := []) rfl (lk_C_82 hw) rfl wi (by decide +kernel) hc (SubW.refl _) rfl (by show arity "(I)Z" 1 = true; decide +kernel) (ok_c_isTwoOperand hw x1 _) rfl ⟨by decide, by decide, Nat.le_of_eq rfl, rfl, rfl, by decide, by decide⟩ (fun r3 hr => ?_)
          refine am_blk (pc' := 51) (Ls' := [.val (.ref 0), .val (.int x1), .val (.int x2), .val (.int x3), .val (.int r3.1)]) (St' := [.int r3.1]) (σ' := r3.2) [.istore 4, .iload 4] (by decide +kernel) hc hT hF wi (by exact rfl) ?_
          refine am_if_eq (o := 13) (pc1 := 64) (by decide +kernel) hc (fun hq => ?_) (fun hq => ?_)
          · exact am_wk (Ls' := [.val (.ref 0), .val (.int x1), .val (.int x2), .val (.int x3), .val (.int r3.1)]) (by simp [wkL]) (okc_c_addGate_64 hw hc x1 x2 x3 r3.1 r3.2)
          · refine am_blk (pc' := 56) (Ls' := [.val (.ref 0), .val (.int x1), .val (.int x2), .val (.int x3), .val (.int r3.1)]) (St' := [.int x3, .ref 0]) (σ' := r3.2) [.aload_n 0, .iload_n 3] (by decide +kernel) hc hT hF wi (by exact rfl) ?_
            refine am_callP_I (W0 := 0) (argsL := [.int x3]) (rest := []) rfl (lk_C_79 hw) rfl wi (by decide +kernel) hc (SubW.refl _) rfl (by show arity "(I)Z" 1 = true; decide +kernel) (ok_c_isSignal hw x3 _) rfl ⟨by decide, by decide, Nat.le_of_eq rfl, rfl, rfl, by decide, by decide⟩ (fun r4 hr => ?_)
            refine am_if_ne (o := 5) (pc1 := 64) (by decide +kernel) hc (fun hq => ?_) (fun hq => ?_)
            · refine am_blk (pc' := 63) (Ls' := [.val (.ref 0), .val (.int x1), .val (.int x2), .val (.int x3), .val (.int r3.1)]) (St' := [.int (-1 : Int32)]) (σ' := r4.2) [.iconst (-1)] (by decide +kernel) hc hT hF wi (by exact rfl) ?_
              exact am_retI (by decide +kernel) hc (by decide) (by decide) (fun h W O => ⟨rfl, W, O⟩)
            · exact am_wk (Ls' := [.val (.ref 0), .val (.int x1), .val (.int x2), .val (.int x3), .val (.int r3.1)]) (by simp [wkL]) (okc_c_addGate_64 hw hc x1 x2 x3 r3.1 r4.2)
    · refine am_blk (pc' := 21) (Ls' := [.val (.ref 0), .val (.int x1), .val (.int x2), .val (.int x3), .unset]) (St' := [.int (-1 : Int32)]) (σ' := σ) [.iconst (-1)] (by decide +kernel) hc hT hF wi (by exact rfl) ?_
      exact am_retI (by decide +kernel) hc (by decide) (by decide) (fun h W O => ⟨rfl, W, O⟩)
abbrev rm_c_markOutput : Room := { frames := 2, cells := 0, slots := 0, locals := 26 }
def c_markOutput (x1 : Int32) (σ : Sg) : Option (Int32 × Sg) :=
  if 0 < (gi σ 0 17) then (some ((0 : Int32), σ)) else (if (gi σ 0 14) < (8 : Int32) then ((c_isSignal x1 σ).bind fun r1 => if r1.1 = 0 then (some ((0 : Int32), r1.2)) else (if inb x1 40 = true then (if (gi r1.2 5 (nx x1)) = 0 then (if inb (gi r1.2 0 14) 8 = true then (some ((1 : Int32), si (si (si r1.2 5 (nx x1) (1 : Int32)) 4 (nx (gi r1.2 0 14)) x1) 0 14 ((gi r1.2 0 14) + (1 : Int32)))) else none) else (some ((0 : Int32), r1.2))) else none)) else (some ((0 : Int32), σ)))
set_option maxRecDepth 65536 in
set_option maxHeartbeats 4000000 in
theorem ok_c_markOutput (hw : WH a0 Z) (x1 : Int32) (σ : Sg) : ∀ x, c_markOutput x1 σ = some x → Con l Z "LogicBist" fsC (⟨"LogicBist", "markOutput", "(I)Z"⟩ : MethodName) prog_1_method_3_code 2 (some .boolean) rm_c_markOutput wC [.ref 0, .int x1] σ (fI x).1 (fI x).2 := by
  refine am_con pnC ?_
  intro p e s m below meth c A n0 h0 hc
  have hT := tabC hw "markOutput"
  have hF := fsokC hw
  have wi := wiC hw
  unfold c_markOutput
  refine am_blk (pc' := 4) (Ls' := [.val (.ref 0), .val (.int x1)]) (St' := [.int (gi σ 0 17)]) (σ' := σ) [.aload_n 0, .getfield 72] (by decide +kernel) hc hT hF wi (by exact rfl) ?_
  refine am_if_le (o := 5) (pc1 := 9) (by decide +kernel) hc (fun hq => ?_) (fun hq => ?_)
  · refine am_blk (pc' := 8) (Ls' := [.val (.ref 0), .val (.int x1)]) (St' := [.int (0 : Int32)]) (σ' := σ) [.iconst 0] (by decide +kernel) hc hT hF wi (by exact rfl) ?_
    exact am_retZ (by decide +kernel) hc (by decide) (by decide) (fun h W O => ⟨rfl, W, O⟩)
  · refine am_blk (pc' := 15) (Ls' := [.val (.ref 0), .val (.int x1)]) (St' := [.int (8 : Int32), .int (gi σ 0 14)]) (σ' := σ) [.aload_n 0, .getfield 59, .bipush 8] (by decide +kernel) hc hT hF wi (by exact rfl) ?_
    refine am_icmp_lt (o := 5) (pc1 := 20) (by decide +kernel) hc (fun hq => ?_) (fun hq => ?_)
    · refine am_blk (pc' := 22) (Ls' := [.val (.ref 0), .val (.int x1)]) (St' := [.int x1, .ref 0]) (σ' := σ) [.aload_n 0, .iload_n 1] (by decide +kernel) hc hT hF wi (by exact rfl) ?_
      refine am_callP_I (W0 := 0) (argsL := [.int x1]) (rest := []) rfl (lk_C_79 hw) rfl wi (by decide +kernel) hc (SubW.refl _) rfl (by show arity "(I)Z" 1 = true; decide +kernel) (ok_c_isSignal hw x1 _) rfl ⟨by decide, by decide, Nat.le_of_eq rfl, rfl, rfl, by decide, by decide⟩ (fun r1 hr => ?_)
      refine am_if_ne (o := 5) (pc1 := 30) (by decide +kernel) hc (fun hq => ?_) (fun hq => ?_)
      · refine am_blk (pc' := 29) (Ls' := [.val (.ref 0), .val (.int x1)]) (St' := [.int (0 : Int32)]) (σ' := r1.2) [.iconst 0] (by decide +kernel) hc hT hF wi (by exact rfl) ?_
        exact am_retZ (by decide +kernel) hc (by decide) (by decide) (fun h W O => ⟨rfl, W, O⟩)
      · refine am_blk (pc' := 35) (Ls' := [.val (.ref 0), .val (.int x1)]) (St' := [.int x1, .ref 5]) (σ' := r1.2) [.aload_n 0, .getfield 22, .iload_n 1] (by decide +kernel) hc hT hF wi (by exact rfl) ?_
        refine am_baloadZ (by decide +kernel) hc rfl (fun hb0 => ?_)
        refine am_if_eq (o := 5) (pc1 := 41) (by decide +kernel) hc (fun hq => ?_) (fun hq => ?_)
        · refine am_blk (pc' := 47) (Ls' := [.val (.ref 0), .val (.int x1)]) (St' := [.int (1 : Int32), .int x1, .ref 5]) (σ' := r1.2) [.aload_n 0, .getfield 22, .iload_n 1, .iconst 1] (by decide +kernel) hc hT hF wi (by exact rfl) ?_
          refine am_bastoreZ_k hb0 (y := (1 : Int32)) rfl (by decide +kernel) hc rfl ?_
          refine am_blk (pc' := 57) (Ls' := [.val (.ref 0), .val (.int x1)]) (St' := [.int x1, .int (gi r1.2 0 14), .ref 4]) (σ' := si r1.2 5 (nx x1) (1 : Int32)) [.aload_n 0, .getfield 19, .aload_n 0, .getfield 59, .iload_n 1] (by decide +kernel) hc hT hF wi (by exact rfl) ?_
          refine am_iastore (y := x1) rfl (by decide +kernel) hc rfl (fun hb1 => ?_)
          refine am_blk (pc' := 69) (Ls' := [.val (.ref 0), .val (.int x1)]) (St' := [.int (1 : Int32)]) (σ' := si (si (si r1.2 5 (nx x1) (1 : Int32)) 4 (nx (gi r1.2 0 14)) x1) 0 14 ((gi r1.2 0 14) + (1 : Int32))) [.aload_n 0, .dup, .getfield 59, .iconst 1, .iadd, .putfield 59, .iconst 1] (by decide +kernel) hc hT hF wi (by exact rfl) ?_
          exact am_retZ (by decide +kernel) hc (by decide) (by decide) (fun h W O => ⟨rfl, W, O⟩)
        · refine am_blk (pc' := 40) (Ls' := [.val (.ref 0), .val (.int x1)]) (St' := [.int (0 : Int32)]) (σ' := r1.2) [.iconst 0] (by decide +kernel) hc hT hF wi (by exact rfl) ?_
          exact am_retZ (by decide +kernel) hc (by decide) (by decide) (fun h W O => ⟨rfl, W, O⟩)
    · refine am_blk (pc' := 19) (Ls' := [.val (.ref 0), .val (.int x1)]) (St' := [.int (0 : Int32)]) (σ' := σ) [.iconst 0] (by decide +kernel) hc hT hF wi (by exact rfl) ?_
      exact am_retZ (by decide +kernel) hc (by decide) (by decide) (fun h W O => ⟨rfl, W, O⟩)
abbrev rm_c_getPatternCount : Room := { frames := 0, cells := 0, slots := 0, locals := 0 }
def c_getPatternCount (σ : Sg) : Option (Int32 × Sg) :=
  some (gi σ 0 17, σ)
set_option maxRecDepth 65536 in
set_option maxHeartbeats 4000000 in
theorem ok_c_getPatternCount (hw : WH a0 Z) (σ : Sg) : ∀ x, c_getPatternCount σ = some x → Con l Z "LogicBist" fsC (⟨"LogicBist", "getPatternCount", "()I"⟩ : MethodName) prog_1_method_9_code 1 (some .int) rm_c_getPatternCount wC [.ref 0] σ (fI x).1 (fI x).2 := by
  refine am_con pnC ?_
  intro p e s m below meth c A n0 h0 hc
  have hT := tabC hw "getPatternCount"
  have hF := fsokC hw
  have wi := wiC hw
  unfold c_getPatternCount
  refine am_blk (pc' := 4) (Ls' := [.val (.ref 0)]) (St' := [.int (gi σ 0 17)]) (σ' := σ) [.aload_n 0, .getfield 72] (by decide +kernel) hc hT hF wi (by exact rfl) ?_
  exact am_retI (by decide +kernel) hc (by decide) (by decide) (fun h W O => ⟨rfl, W, O⟩)
abbrev rm_c_faultCount : Room := { frames := 1, cells := 0, slots := 0, locals := 13 }
def c_faultCount (σ : Sg) : Option (Int32 × Sg) :=
  (c_signalCount σ).bind fun r1 => some ((2 : Int32) * r1.1, r1.2)
set_option maxRecDepth 65536 in
set_option maxHeartbeats 4000000 in
theorem ok_c_faultCount (hw : WH a0 Z) (σ : Sg) : ∀ x, c_faultCount σ = some x → Con l Z "LogicBist" fsC (⟨"LogicBist", "faultCount", "()I"⟩ : MethodName) prog_1_method_33_code 1 (some .int) rm_c_faultCount wC [.ref 0] σ (fI x).1 (fI x).2 := by
  refine am_con pnC ?_
  intro p e s m below meth c A n0 h0 hc
  have hT := tabC hw "faultCount"
  have hF := fsokC hw
  have wi := wiC hw
  unfold c_faultCount
  refine am_blk (pc' := 2) (Ls' := [.val (.ref 0)]) (St' := [.ref 0, .int (2 : Int32)]) (σ' := σ) [.iconst 2, .aload_n 0] (by decide +kernel) hc hT hF wi (by exact rfl) ?_
  refine am_callP_I (W0 := 1) (argsL := []) (rest := [.int (2 : Int32)]) rfl (lk_C_146 hw) rfl wi (by decide +kernel) hc (SubW.refl _) rfl (by show arity "()I" 0 = true; decide +kernel) (ok_c_signalCount hw _) rfl ⟨by decide, by decide, Nat.le_of_eq rfl, rfl, rfl, by decide, by decide⟩ (fun r1 hr => ?_)
  refine am_blk (pc' := 6) (Ls' := [.val (.ref 0)]) (St' := [.int ((2 : Int32) * r1.1)]) (σ' := r1.2) [.imul] (by decide +kernel) hc hT hF wi (by exact rfl) ?_
  exact am_retI (by decide +kernel) hc (by decide) (by decide) (fun h W O => ⟨rfl, W, O⟩)
abbrev rm_c_getFaultCount : Room := { frames := 2, cells := 0, slots := 0, locals := 25 }
def c_getFaultCount (σ : Sg) : Option (Int32 × Sg) :=
  (c_faultCount σ).bind fun r1 => some (r1.1, r1.2)
set_option maxRecDepth 65536 in
set_option maxHeartbeats 4000000 in
theorem ok_c_getFaultCount (hw : WH a0 Z) (σ : Sg) : ∀ x, c_getFaultCount σ = some x → Con l Z "LogicBist" fsC (⟨"LogicBist", "getFaultCount", "()I"⟩ : MethodName) prog_1_method_17_code 1 (some .int) rm_c_getFaultCount wC [.ref 0] σ (fI x).1 (fI x).2 := by
  refine am_con pnC ?_
  intro p e s m below meth c A n0 h0 hc
  have hT := tabC hw "getFaultCount"
  have hF := fsokC hw
  have wi := wiC hw
  unfold c_getFaultCount
  refine am_blk (pc' := 1) (Ls' := [.val (.ref 0)]) (St' := [.ref 0]) (σ' := σ) [.aload_n 0] (by decide +kernel) hc hT hF wi (by exact rfl) ?_
  refine am_callP_I (W0 := 0) (argsL := []) (rest := []) rfl (lk_C_118 hw) rfl wi (by decide +kernel) hc (SubW.refl _) rfl (by show arity "()I" 0 = true; decide +kernel) (ok_c_faultCount hw _) rfl ⟨by decide, by decide, Nat.le_of_eq rfl, rfl, rfl, by decide, by decide⟩ (fun r1 hr => ?_)
  exact am_retI (by decide +kernel) hc (by decide) (by decide) (fun h W O => ⟨rfl, W, O⟩)
abbrev rm_c_inputLane : Room := { frames := 0, cells := 0, slots := 0, locals := 0 }
def c_inputLane (x1 : Int32) (x2 : Int32) (σ : Sg) : Option (Int64 × Sg) :=
  if x2 < 0 then (some ((0 : Int64), σ)) else (if (31 : Int32) < x2 then (some ((0 : Int64), σ)) else (if ((XT.ushr x1 x2) &&& (1 : Int32)) = 0 then (some ((0 : Int64), σ)) else (some ((-1 : Int64), σ))))
set_option maxRecDepth 65536 in
set_option maxHeartbeats 4000000 in
theorem ok_c_inputLane (hw : WH a0 Z) (x1 : Int32) (x2 : Int32) (σ : Sg) : ∀ x, c_inputLane x1 x2 σ = some x → Con l Z "LogicBist" fsC (⟨"LogicBist", "inputLane", "(II)J"⟩ : MethodName) prog_1_method_24_code 3 (some .long) rm_c_inputLane wC [.ref 0, .int x1, .int x2] σ (fJ x).1 (fJ x).2 := by
  refine am_con pnC ?_
  intro p e s m below meth c A n0 h0 hc
  have hT := tabC hw "inputLane"
  have hF := fsokC hw
  have wi := wiC hw
  unfold c_inputLane
  refine am_blk (pc' := 1) (Ls' := [.val (.ref 0), .val (.int x1), .val (.int x2)]) (St' := [.int x2]) (σ' := σ) [.iload_n 2] (by decide +kernel) hc hT hF wi (by exact rfl) ?_
  refine am_if_lt (o := 9) (pc1 := 10) (by decide +kernel) hc (fun hq => ?_) (fun hq => ?_)
  · refine am_blk (pc' := 11) (Ls' := [.val (.ref 0), .val (.int x1), .val (.int x2)]) (St' := [.long (0 : Int64)]) (σ' := σ) [.lconst 0] (by decide +kernel) hc hT hF wi (by exact rfl) ?_
    exact am_retJ (by decide +kernel) hc (by decide) (by decide) (fun h W O => ⟨rfl, W, O⟩)
  · refine am_blk (pc' := 7) (Ls' := [.val (.ref 0), .val (.int x1), .val (.int x2)]) (St' := [.int (31 : Int32), .int x2]) (σ' := σ) [.iload_n 2, .bipush 31] (by decide +kernel) hc hT hF wi (by exact rfl) ?_
    refine am_icmp_le (o := 5) (pc1 := 12) (by decide +kernel) hc (fun hq => ?_) (fun hq => ?_)
    · refine am_blk (pc' := 11) (Ls' := [.val (.ref 0), .val (.int x1), .val (.int x2)]) (St' := [.long (0 : Int64)]) (σ' := σ) [.lconst 0] (by decide +kernel) hc hT hF wi (by exact rfl) ?_
      exact am_retJ (by decide +kernel) hc (by decide) (by decide) (fun h W O => ⟨rfl, W, O⟩)
    · refine am_blk (pc' := 17) (Ls' := [.val (.ref 0), .val (.int x1), .val (.int x2)]) (St' := [.int ((XT.ushr x1 x2) &&& (1 : Int32))]) (σ' := σ) [.iload_n 1, .iload_n 2, .iushr, .iconst 1, .iand] (by decide +kernel) hc hT hF wi (by exact rfl) ?_
      refine am_if_eq (o := 7) (pc1 := 24) (by decide +kernel) hc (fun hq => ?_) (fun hq => ?_)
      · refine am_blk (pc' := 25) (Ls' := [.val (.ref 0), .val (.int x1), .val (.int x2)]) (St' := [.long (0 : Int64)]) (σ' := σ) [.lconst 0] (by decide +kernel) hc hT hF wi (by exact rfl) ?_
        exact am_retJ (by decide +kernel) hc (by decide) (by decide) (fun h W O => ⟨rfl, W, O⟩)
      · refine am_blk (pc' := 23) (Ls' := [.val (.ref 0), .val (.int x1), .val (.int x2)]) (St' := [.long (-1 : Int64)]) (σ' := σ) [.ldc2_w 161] (by decide +kernel) hc hT hF wi (by exact rfl) ?_
        exact am_retJ (by decide +kernel) hc (by decide) (by decide) (fun h W O => ⟨rfl, W, O⟩)
abbrev rm_c_loadLane : Room := { frames := 0, cells := 0, slots := 0, locals := 0 }
def c_loadLane (x1 : Int32) (σ : Sg) : Option (Int64 × Sg) :=
  if x1 < 0 then (some ((0 : Int64), σ)) else (if x1 < (40 : Int32) then (if inb x1 40 = true then (some (gj σ 9 (nx x1), σ)) else none) else (some ((0 : Int64), σ)))
set_option maxRecDepth 65536 in
set_option maxHeartbeats 4000000 in
theorem ok_c_loadLane (hw : WH a0 Z) (x1 : Int32) (σ : Sg) : ∀ x, c_loadLane x1 σ = some x → Con l Z "LogicBist" fsC (⟨"LogicBist", "loadLane", "(I)J"⟩ : MethodName) prog_1_method_28_code 2 (some .long) rm_c_loadLane wC [.ref 0, .int x1] σ (fJ x).1 (fJ x).2 := by
  refine am_con pnC ?_
  intro p e s m below meth c A n0 h0 hc
  have hT := tabC hw "loadLane"
  have hF := fsokC hw
  have wi := wiC hw
  unfold c_loadLane
  refine am_blk (pc' := 1) (Ls' := [.val (.ref 0), .val (.int x1)]) (St' := [.int x1]) (σ' := σ) [.iload_n 1] (by decide +kernel) hc hT hF wi (by exact rfl) ?_
  refine am_if_lt (o := 9) (pc1 := 10) (by decide +kernel) hc (fun hq => ?_) (fun hq => ?_)
  · refine am_blk (pc' := 11) (Ls' := [.val (.ref 0), .val (.int x1)]) (St' := [.long (0 : Int64)]) (σ' := σ) [.lconst 0] (by decide +kernel) hc hT hF wi (by exact rfl) ?_
    exact am_retJ (by decide +kernel) hc (by decide) (by decide) (fun h W O => ⟨rfl, W, O⟩)
  · refine am_blk (pc' := 7) (Ls' := [.val (.ref 0), .val (.int x1)]) (St' := [.int (40 : Int32), .int x1]) (σ' := σ) [.iload_n 1, .bipush 40] (by decide +kernel) hc hT hF wi (by exact rfl) ?_
    refine am_icmp_lt (o := 5) (pc1 := 12) (by decide +kernel) hc (fun hq => ?_) (fun hq => ?_)
    · refine am_blk (pc' := 17) (Ls' := [.val (.ref 0), .val (.int x1)]) (St' := [.int x1, .ref 9]) (σ' := σ) [.aload_n 0, .getfield 35, .iload_n 1] (by decide +kernel) hc hT hF wi (by exact rfl) ?_
      refine am_laload (by decide +kernel) hc rfl (fun hb0 => ?_)
      exact am_retJ (by decide +kernel) hc (by decide) (by decide) (fun h W O => ⟨rfl, W, O⟩)
    · refine am_blk (pc' := 11) (Ls' := [.val (.ref 0), .val (.int x1)]) (St' := [.long (0 : Int64)]) (σ' := σ) [.lconst 0] (by decide +kernel) hc hT hF wi (by exact rfl) ?_
      exact am_retJ (by decide +kernel) hc (by decide) (by decide) (fun h W O => ⟨rfl, W, O⟩)
abbrev rm_c_combine : Room := { frames := 0, cells := 0, slots := 0, locals := 0 }
def c_combine (x1 : Int32) (y2 : Int64) (y4 : Int64) (σ : Sg) : Option (Int64 × Sg) :=
  if x1 = 0 then (some (y2 &&& y4, σ)) else (if x1 = (1 : Int32) then (some (y2 ||| y4, σ)) else (if x1 = (2 : Int32) then (some ((y2 &&& y4) ^^^ (-1 : Int64), σ)) else (if x1 = (3 : Int32) then (some ((y2 ||| y4) ^^^ (-1 : Int64), σ)) else (if x1 = (4 : Int32) then (some (y2 ^^^ y4, σ)) else (if x1 = (5 : Int32) then (some ((y2 ^^^ y4) ^^^ (-1 : Int64), σ)) else (if x1 = (6 : Int32) then (some (y2 ^^^ (-1 : Int64), σ)) else (some (y2, σ))))))))
set_option maxRecDepth 65536 in
set_option maxHeartbeats 4000000 in
theorem ok_c_combine (hw : WH a0 Z) (x1 : Int32) (y2 : Int64) (y4 : Int64) (σ : Sg) : ∀ x, c_combine x1 y2 y4 σ = some x → Con l Z "LogicBist" fsC (⟨"LogicBist", "combine", "(IJJ)J"⟩ : MethodName) prog_1_method_26_code 6 (some .long) rm_c_combine wC [.ref 0, .int x1, .long y2, .long y4] σ (fJ x).1 (fJ x).2 := by
  refine am_con pnC ?_
  intro p e s m below meth c A n0 h0 hc
  have hT := tabC hw "combine"
  have hF := fsokC hw
  have wi := wiC hw
  unfold c_combine
  refine am_blk (pc' := 1) (Ls' := [.val (.ref 0), .val (.int x1), .val (.long y2), .second, .val (.long y4), .second]) (St' := [.int x1]) (σ' := σ) [.iload_n 1] (by decide +kernel) hc hT hF wi (by exact rfl) ?_
  refine am_if_ne (o := 8) (pc1 := 9) (by decide +kernel) hc (fun hq => ?_) (fun hq => ?_)
  · refine am_blk (pc' := 8) (Ls' := [.val (.ref 0), .val (.int x1), .val (.long y2), .second, .val (.long y4), .second]) (St' := [.long (y2 &&& y4)]) (σ' := σ) [.lload_n 2, .lload 4, .land] (by decide +kernel) hc hT hF wi (by exact rfl) ?_
    exact am_retJ (by decide +kernel) hc (by decide) (by decide) (fun h W O => ⟨rfl, W, O⟩)
  · refine am_blk (pc' := 11) (Ls' := [.val (.ref 0), .val (.int x1), .val (.long y2), .second, .val (.long y4), .second]) (St' := [.int (1 : Int32), .int x1]) (σ' := σ) [.iload_n 1, .iconst 1] (by decide +kernel) hc hT hF wi (by exact rfl) ?_
    refine am_icmp_ne (o := 8) (pc1 := 19) (by decide +kernel) hc (fun hq => ?_) (fun hq => ?_)
    · refine am_blk (pc' := 18) (Ls' := [.val (.ref 0), .val (.int x1), .val (.long y2), .second, .val (.long y4), .second]) (St' := [.long (y2 ||| y4)]) (σ' := σ) [.lload_n 2, .lload 4, .lor] (by decide +kernel) hc hT hF wi (by exact rfl) ?_
      exact am_retJ (by decide +kernel) hc (by decide) (by decide) (fun h W O => ⟨rfl, W, O⟩)
    · refine am_blk (pc' := 21) (Ls' := [.val (.ref 0), .val (.int x1), .val (.long y2), .second, .val (.long y4), .second]) (St' := [.int (2 : Int32), .int x1]) (σ' := σ) [.iload_n 1, .iconst 2] (by decide +kernel) hc hT hF wi (by exact rfl) ?_
      refine am_icmp_ne (o := 12) (pc1 := 33) (by decide +kernel) hc (fun hq => ?_) (fun hq => ?_)
      · refine am_blk (pc' := 32) (Ls' := [.val (.ref 0), .val (.int x1), .val (.long y2), .second, .val (.long y4), .second]) (St' := [.long ((y2 &&& y4) ^^^ (-1 : Int64))]) (σ' := σ) [.lload_n 2, .lload 4, .land, .ldc2_w 161, .lxor] (by decide +kernel) hc hT hF wi (by exact rfl) ?_
        exact am_retJ (by decide +kernel) hc (by decide) (by decide) (fun h W O => ⟨rfl, W, O⟩)
      · refine am_blk (pc' := 35) (Ls' := [.val (.ref 0), .val (.int x1), .val (.long y2), .second, .val (.long y4), .second]) (St' := [.int (3 : Int32), .int x1]) (σ' := σ) [.iload_n 1, .iconst 3] (by decide +kernel) hc hT hF wi (by exact rfl) ?_
        refine am_icmp_ne (o := 12) (pc1 := 47) (by decide +kernel) hc (fun hq => ?_) (fun hq => ?_)
        · refine am_blk (pc' := 46) (Ls' := [.val (.ref 0), .val (.int x1), .val (.long y2), .second, .val (.long y4), .second]) (St' := [.long ((y2 ||| y4) ^^^ (-1 : Int64))]) (σ' := σ) [.lload_n 2, .lload 4, .lor, .ldc2_w 161, .lxor] (by decide +kernel) hc hT hF wi (by exact rfl) ?_
          exact am_retJ (by decide +kernel) hc (by decide) (by decide) (fun h W O => ⟨rfl, W, O⟩)
        · refine am_blk (pc' := 49) (Ls' := [.val (.ref 0), .val (.int x1), .val (.long y2), .second, .val (.long y4), .second]) (St' := [.int (4 : Int32), .int x1]) (σ' := σ) [.iload_n 1, .iconst 4] (by decide +kernel) hc hT hF wi (by exact rfl) ?_
          refine am_icmp_ne (o := 8) (pc1 := 57) (by decide +kernel) hc (fun hq => ?_) (fun hq => ?_)
          · refine am_blk (pc' := 56) (Ls' := [.val (.ref 0), .val (.int x1), .val (.long y2), .second, .val (.long y4), .second]) (St' := [.long (y2 ^^^ y4)]) (σ' := σ) [.lload_n 2, .lload 4, .lxor] (by decide +kernel) hc hT hF wi (by exact rfl) ?_
            exact am_retJ (by decide +kernel) hc (by decide) (by decide) (fun h W O => ⟨rfl, W, O⟩)
          · refine am_blk (pc' := 59) (Ls' := [.val (.ref 0), .val (.int x1), .val (.long y2), .second, .val (.long y4), .second]) (St' := [.int (5 : Int32), .int x1]) (σ' := σ) [.iload_n 1, .iconst 5] (by decide +kernel) hc hT hF wi (by exact rfl) ?_
            refine am_icmp_ne (o := 12) (pc1 := 71) (by decide +kernel) hc (fun hq => ?_) (fun hq => ?_)
            · refine am_blk (pc' := 70) (Ls' := [.val (.ref 0), .val (.int x1), .val (.long y2), .second, .val (.long y4), .second]) (St' := [.long ((y2 ^^^ y4) ^^^ (-1 : Int64))]) (σ' := σ) [.lload_n 2, .lload 4, .lxor, .ldc2_w 161, .lxor] (by decide +kernel) hc hT hF wi (by exact rfl) ?_
              exact am_retJ (by decide +kernel) hc (by decide) (by decide) (fun h W O => ⟨rfl, W, O⟩)
            · refine am_blk (pc' := 74) (Ls' := [.val (.ref 0), .val (.int x1), .val (.long y2), .second, .val (.long y4), .second]) (St' := [.int (6 : Int32), .int x1]) (σ' := σ) [.iload_n 1, .bipush 6] (by decide +kernel) hc hT hF wi (by exact rfl) ?_
              refine am_icmp_ne (o := 9) (pc1 := 83) (by decide +kernel) hc (fun hq => ?_) (fun hq => ?_)
              · refine am_blk (pc' := 82) (Ls' := [.val (.ref 0), .val (.int x1), .val (.long y2), .second, .val (.long y4), .second]) (St' := [.long (y2 ^^^ (-1 : Int64))]) (σ' := σ) [.lload_n 2, .ldc2_w 161, .lxor] (by decide +kernel) hc hT hF wi (by exact rfl) ?_
                exact am_retJ (by decide +kernel) hc (by decide) (by decide) (fun h W O => ⟨rfl, W, O⟩)
              · refine am_blk (pc' := 84) (Ls' := [.val (.ref 0), .val (.int x1), .val (.long y2), .second, .val (.long y4), .second]) (St' := [.long y2]) (σ' := σ) [.lload_n 2] (by decide +kernel) hc hT hF wi (by exact rfl) ?_
                exact am_retJ (by decide +kernel) hc (by decide) (by decide) (fun h W O => ⟨rfl, W, O⟩)
abbrev rm_c_gateLane : Room := { frames := 1, cells := 0, slots := 0, locals := 17 }
def c_gateLane_53 (x2 : Int32) (y3 : Int64) (y5 : Int64) (σ : Sg) : Option (Int64 × Sg) :=
  (c_combine x2 y3 y5 σ).bind fun r1 => some (r1.1, r1.2)
set_option maxRecDepth 65536 in
set_option maxHeartbeats 4000000 in
theorem okc_c_gateLane_53 (hw : WH a0 Z) (hc : Cx p s m meth c Z "LogicBist" prog_1_method_25_code 7 (some .long) "gateLane") (x2 : Int32) (y3 : Int64) (y5 : Int64) (σ : Sg) : OkR p l e rm_c_gateLane s m args below meth c Z "LogicBist" fsC n0 h0 (FM Z "LogicBist" fsC A wC h0 fJ) A wC 0 0 53 [.val (.ref 0), .unset, .val (.int x2), .val (.long y3), .unset, .val (.long y5), .unset] [] σ (c_gateLane_53 x2 y3 y5 σ) := by
  have hT := tabC hw "gateLane"
  have hF := fsokC hw
  have wi := wiC hw
  unfold c_gateLane_53
  refine am_blk (pc' := 58) (Ls' := [.val (.ref 0), .unset, .val (.int x2), .val (.long y3), .unset, .val (.long y5), .unset]) (St' := [.long y5, .long y3, .int x2, .ref 0]) (σ' := σ) [.aload_n 0, .iload_n 2, .lload_n 3, .lload 5] (by decide +kernel) hc hT hF wi (by exact rfl) ?_
  refine am_callP_J (W0 := 0) (argsL := [.int x2, .long y3, .long y5]) (rest := []) rfl (lk_C_166 hw) rfl wi (by decide +kernel) hc (SubW.refl _) rfl (by show arity "(IJJ)J" 3 = true; decide +kernel) (ok_c_combine hw x2 y3 y5 _) rfl ⟨by decide, by decide, Nat.le_of_eq rfl, rfl, rfl, by decide, by decide⟩ (fun r1 hr => ?_)
  exact am_retJ (by decide +kernel) hc (by decide) (by decide) (fun h W O => ⟨rfl, W, O⟩)
def c_gateLane (x1 : Int32) (σ : Sg) : Option (Int64 × Sg) :=
  if x1 < 0 then (some ((0 : Int64), σ)) else (if x1 < (32 : Int32) then (if inb x1 32 = true then ((c_loadLane (gi σ 2 (nx x1)) σ).bind fun r1 => (c_isTwoOperand (gi σ 1 (nx x1)) r1.2).bind fun r2 => if r2.1 = 0 then (c_gateLane_53 (gi σ 1 (nx x1)) r1.1 (0 : Int64) r2.2) else ((c_loadLane (gi r2.2 3 (nx x1)) r2.2).bind fun r3 => c_gateLane_53 (gi σ 1 (nx x1)) r1.1 r3.1 r3.2)) else none) else (some ((0 : Int64), σ)))
set_option maxRecDepth 65536 in
set_option maxHeartbeats 4000000 in
theorem ok_c_gateLane (hw : WH a0 Z) (x1 : Int32) (σ : Sg) : ∀ x, c_gateLane x1 σ = some x → Con l Z "LogicBist" fsC (⟨"LogicBist", "gateLane", "(I)J"⟩ : MethodName) prog_1_method_25_code 7 (some .long) rm_c_gateLane wC [.ref 0, .int x1] σ (fJ x).1 (fJ x).2 := by
  refine am_con pnC ?_
  intro p e s m below meth c A n0 h0 hc
  have hT := tabC hw "gateLane"
  have hF := fsokC hw
  have wi := wiC hw
  unfold c_gateLane
  refine am_blk (pc' := 1) (Ls' := [.val (.ref 0), .val (.int x1), .unset, .unset, .unset, .unset, .unset]) (St' := [.int x1]) (σ' := σ) [.iload_n 1] (by decide +kernel) hc hT hF wi (by exact rfl) ?_
  refine am_if_lt (o := 9) (pc1 := 10) (by decide +kernel) hc (fun hq => ?_) (fun hq => ?_)
  · refine am_blk (pc' := 11) (Ls' := [.val (.ref 0), .val (.int x1), .unset, .unset, .unset, .unset, .unset]) (St' := [.long (0 : Int64)]) (σ' := σ) [.lconst 0] (by decide +kernel) hc hT hF wi (by exact rfl) ?_
    exact am_retJ (by decide +kernel) hc (by decide) (by decide) (fun h W O => ⟨rfl, W, O⟩)
  · refine am_blk (pc' := 7) (Ls' := [.val (.ref 0), .val (.int x1), .unset, .unset, .unset, .unset, .unset]) (St' := [.int (32 : Int32), .int x1]) (σ' := σ) [.iload_n 1, .bipush 32] (by decide +kernel) hc hT hF wi (by exact rfl) ?_
    refine am_icmp_lt (o := 5) (pc1 := 12) (by decide +kernel) hc (fun hq => ?_) (fun hq => ?_)
    · refine am_blk (pc' := 17) (Ls' := [.val (.ref 0), .val (.int x1), .unset, .unset, .unset, .unset, .unset]) (St' := [.int x1, .ref 1]) (σ' := σ) [.aload_n 0, .getfield 7, .iload_n 1] (by decide +kernel) hc hT hF wi (by exact rfl) ?_
      refine am_iaload (by decide +kernel) hc rfl (fun hb0 => ?_)
      refine am_blk (pc' := 25) (Ls' := [.val (.ref 0), .val (.int x1), .val (.int (gi σ 1 (nx x1))), .unset, .unset, .unset, .unset]) (St' := [.int x1, .ref 2, .ref 0]) (σ' := σ) [.istore_n 2, .aload_n 0, .aload_n 0, .getfield 13, .iload_n 1] (by decide +kernel) hc hT hF wi (by exact rfl) ?_
      refine am_iaload_k hb0 (by decide +kernel) hc rfl ?_
      refine am_callP_J (W0 := 0) (argsL := [.int (gi σ 2 (nx x1))]) (rest := []) rfl (lk_C_163 hw) rfl wi (by decide +kernel) hc (SubW.refl _) rfl (by show arity "(I)J" 1 = true; decide +kernel) (ok_c_loadLane hw (gi σ 2 (nx x1)) _) rfl ⟨by decide, by decide, Nat.le_of_eq rfl, rfl, rfl, by decide, by decide⟩ (fun r1 hr => ?_)
      refine am_blk (pc' := 35) (Ls' := [.val (.ref 0), .val (.int x1), .val (.int (gi σ 1 (nx x1))), .val (.long r1.1), .second, .val (.long (0 : Int64)), .second]) (St' := [.int (gi σ 1 (nx x1)), .ref 0]) (σ' := r1.2) [.lstore_n 3, .lconst 0, .lstore 5, .aload_n 0, .iload_n 2] (by decide +kernel) hc hT hF wi (by exact rfl) ?_
      refine am_callP_I (W0 := 0) (argsL := [.int (gi σ 1 (nx x1))]) (rest := []) rfl (lk_C_82 hw) rfl wi (by decide +kernel) hc (SubW.refl _) rfl (by show arity "(I)Z" 1 = true; decide +kernel) (ok_c_isTwoOperand hw (gi σ 1 (nx x1)) _) rfl ⟨by decide, by decide, Nat.le_of_eq rfl, rfl, rfl, by decide, by decide⟩ (fun r2 hr => ?_)
      refine am_if_eq (o := 15) (pc1 := 53) (by decide +kernel) hc (fun hq => ?_) (fun hq => ?_)
      · exact am_wk (Ls' := [.val (.ref 0), .unset, .val (.int (gi σ 1 (nx x1))), .val (.long r1.1), .unset, .val (.long (0 : Int64)), .unset]) (by simp [wkL]) (okc_c_gateLane_53 hw hc (gi σ 1 (nx x1)) r1.1 (0 : Int64) r2.2)
      · refine am_blk (pc' := 47) (Ls' := [.val (.ref 0), .val (.int x1), .val (.int (gi σ 1 (nx x1))), .val (.long r1.1), .second, .val (.long (0 : Int64)), .second]) (St' := [.int x1, .ref 3, .ref 0]) (σ' := r2.2) [.aload_n 0, .aload_n 0, .getfield 16, .iload_n 1] (by decide +kernel) hc hT hF wi (by exact rfl) ?_
        refine am_iaload_k hb0 (by decide +kernel) hc rfl ?_
        refine am_callP_J (W0 := 0) (argsL := [.int (gi r2.2 3 (nx x1))]) (rest := []) rfl (lk_C_163 hw) rfl wi (by decide +kernel) hc (SubW.refl _) rfl (by show arity "(I)J" 1 = true; decide +kernel) (ok_c_loadLane hw (gi r2.2 3 (nx x1)) _) rfl ⟨by decide, by decide, Nat.le_of_eq rfl, rfl, rfl, by decide, by decide⟩ (fun r3 hr => ?_)
        refine am_blk (pc' := 53) (Ls' := [.val (.ref 0), .val (.int x1), .val (.int (gi σ 1 (nx x1))), .val (.long r1.1), .second, .val (.long r3.1), .second]) (St' := []) (σ' := r3.2) [.lstore 5] (by decide +kernel) hc hT hF wi (by exact rfl) ?_
        exact am_wk (Ls' := [.val (.ref 0), .unset, .val (.int (gi σ 1 (nx x1))), .val (.long r1.1), .unset, .val (.long r3.1), .unset]) (by simp [wkL]) (okc_c_gateLane_53 hw hc (gi σ 1 (nx x1)) r1.1 r3.1 r3.2)
    · refine am_blk (pc' := 11) (Ls' := [.val (.ref 0), .val (.int x1), .unset, .unset, .unset, .unset, .unset]) (St' := [.long (0 : Int64)]) (σ' := σ) [.lconst 0] (by decide +kernel) hc hT hF wi (by exact rfl) ?_
      exact am_retJ (by decide +kernel) hc (by decide) (by decide) (fun h W O => ⟨rfl, W, O⟩)
abbrev rm_c_forceLane : Room := { frames := 0, cells := 0, slots := 0, locals := 0 }
def c_forceLane (y1 : Int64) (x3 : Int32) (x4 : Int32) (σ : Sg) : Option (Int64 × Sg) :=
  if x4 < 0 then (some (y1, σ)) else (if x3 < 0 then (some (y1, σ)) else (if (XT.ushr x3 (5 : Int32)) = x4 then (some ((y1 &&& (((1 : Int64) <<< (((x3 <<< ((1 : Int32) &&& 31)) &&& (63 : Int32)).toInt64 &&& 63)) ^^^ (-1 : Int64))) ||| ((1 : Int64) <<< ((((x3 <<< ((1 : Int32) &&& 31)) &&& (63 : Int32)) + (1 : Int32)).toInt64 &&& 63)), σ)) else (some (y1, σ))))
set_option maxRecDepth 65536 in
set_option maxHeartbeats 4000000 in
theorem ok_c_forceLane (hw : WH a0 Z) (y1 : Int64) (x3 : Int32) (x4 : Int32) (σ : Sg) : ∀ x, c_forceLane y1 x3 x4 σ = some x → Con l Z "LogicBist" fsC (⟨"LogicBist", "forceLane", "(JII)J"⟩ : MethodName) prog_1_method_27_code 10 (some .long) rm_c_forceLane wC [.ref 0, .long y1, .int x3, .int x4] σ (fJ x).1 (fJ x).2 := by
  refine am_con pnC ?_
  intro p e s m below meth c A n0 h0 hc
  have hT := tabC hw "forceLane"
  have hF := fsokC hw
  have wi := wiC hw
  unfold c_forceLane
  refine am_blk (pc' := 2) (Ls' := [.val (.ref 0), .val (.long y1), .second, .val (.int x3), .val (.int x4), .unset, .unset, .unset, .unset, .unset]) (St' := [.int x4]) (σ' := σ) [.iload 4] (by decide +kernel) hc hT hF wi (by exact rfl) ?_
  refine am_if_lt (o := 7) (pc1 := 9) (by decide +kernel) hc (fun hq => ?_) (fun hq => ?_)
  · refine am_blk (pc' := 10) (Ls' := [.val (.ref 0), .val (.long y1), .second, .val (.int x3), .val (.int x4), .unset, .unset, .unset, .unset, .unset]) (St' := [.long y1]) (σ' := σ) [.lload_n 1] (by decide +kernel) hc hT hF wi (by exact rfl) ?_
    exact am_retJ (by decide +kernel) hc (by decide) (by decide) (fun h W O => ⟨rfl, W, O⟩)
  · refine am_blk (pc' := 6) (Ls' := [.val (.ref 0), .val (.long y1), .second, .val (.int x3), .val (.int x4), .unset, .unset, .unset, .unset, .unset]) (St' := [.int x3]) (σ' := σ) [.iload_n 3] (by decide +kernel) hc hT hF wi (by exact rfl) ?_
    refine am_if_ge (o := 5) (pc1 := 11) (by decide +kernel) hc (fun hq => ?_) (fun hq => ?_)
    · refine am_blk (pc' := 10) (Ls' := [.val (.ref 0), .val (.long y1), .second, .val (.int x3), .val (.int x4), .unset, .unset, .unset, .unset, .unset]) (St' := [.long y1]) (σ' := σ) [.lload_n 1] (by decide +kernel) hc hT hF wi (by exact rfl) ?_
      exact am_retJ (by decide +kernel) hc (by decide) (by decide) (fun h W O => ⟨rfl, W, O⟩)
    · refine am_blk (pc' := 16) (Ls' := [.val (.ref 0), .val (.long y1), .second, .val (.int x3), .val (.int x4), .unset, .unset, .unset, .unset, .unset]) (St' := [.int x4, .int (XT.ushr x3 (5 : Int32))]) (σ' := σ) [.iload_n 3, .iconst 5, .iushr, .iload 4] (by decide +kernel) hc hT hF wi (by exact rfl) ?_
      refine am_icmp_eq (o := 5) (pc1 := 21) (by decide +kernel) hc (fun hq => ?_) (fun hq => ?_)
      · refine am_blk (pc' := 54) (Ls' := [.val (.ref 0), .val (.long y1), .second, .val (.int x3), .val (.int x4), .val (.int ((x3 <<< ((1 : Int32) &&& 31)) &&& (63 : Int32))), .val (.long ((1 : Int64) <<< (((x3 <<< ((1 : Int32) &&& 31)) &&& (63 : Int32)).toInt64 &&& 63))), .second, .val (.long ((1 : Int64) <<< ((((x3 <<< ((1 : Int32) &&& 31)) &&& (63 : Int32)) + (1 : Int32)).toInt64 &&& 63))), .second]) (St' := [.long ((y1 &&& (((1 : Int64) <<< (((x3 <<< ((1 : Int32) &&& 31)) &&& (63 : Int32)).toInt64 &&& 63)) ^^^ (-1 : Int64))) ||| ((1 : Int64) <<< ((((x3 <<< ((1 : Int32) &&& 31)) &&& (63 : Int32)) + (1 : Int32)).toInt64 &&& 63)))]) (σ' := σ) [.iload_n 3, .iconst 1, .ishl, .bipush 63, .iand, .istore 5, .lconst 1, .iload 5, .lshl, .lstore 6, .lconst 1, .iload 5, .iconst 1, .iadd, .lshl, .lstore 8, .lload_n 1, .lload 6, .ldc2_w 161, .lxor, .land, .lload 8, .lor] (by decide +kernel) hc hT hF wi (by exact rfl) ?_
        exact am_retJ (by decide +kernel) hc (by decide) (by decide) (fun h W O => ⟨rfl, W, O⟩)
      · refine am_blk (pc' := 20) (Ls' := [.val (.ref 0), .val (.long y1), .second, .val (.int x3), .val (.int x4), .unset, .unset, .unset, .unset, .unset]) (St' := [.long y1]) (σ' := σ) [.lload_n 1] (by decide +kernel) hc hT hF wi (by exact rfl) ?_
        exact am_retJ (by decide +kernel) hc (by decide) (by decide) (fun h W O => ⟨rfl, W, O⟩)
abbrev rm_c_evaluateGroup : Room := { frames := 2, cells := 0, slots := 0, locals := 35 }
def c_evaluateGroup_55 (k8 : Int32 → Int32 → Int32 → Int32 → Sg → Option Sg) (x1 : Int32) (x2 : Int32) (x3 : Int32) (x4 : Int32) (y5 : Int64) (σ : Sg) : Option Sg :=
  (c_forceLane y5 x4 x2 σ).bind fun r1 => if inb x4 40 = true then (k8 x1 x2 x3 (x4 + (1 : Int32)) (sj r1.2 9 (nx x4) r1.1)) else none
set_option maxRecDepth 65536 in
set_option maxHeartbeats 4000000 in
theorem okc_c_evaluateGroup_55 (hw : WH a0 Z) (hc : Cx p s m meth c Z "LogicBist" prog_1_method_23_code 7 none "evaluateGroup") (k8 : Int32 → Int32 → Int32 → Int32 → Sg → Option Sg) (hk8 : ∀ (x1 : Int32) (x2 : Int32) (x3 : Int32) (x4 : Int32) (σ : Sg), OkR p l e rm_c_evaluateGroup s m args below meth c Z "LogicBist" fsC n0 h0 (FM Z "LogicBist" fsC A wC h0 fV) A wC 0 0 8 [.val (.ref 0), .val (.int x1), .val (.int x2), .val (.int x3), .val (.int x4), .unset, .unset] [] σ (k8 x1 x2 x3 x4 σ)) (x1 : Int32) (x2 : Int32) (x3 : Int32) (x4 : Int32) (y5 : Int64) (σ : Sg) : OkR p l e rm_c_evaluateGroup s m args below meth c Z "LogicBist" fsC n0 h0 (FM Z "LogicBist" fsC A wC h0 fV) A wC 0 0 55 [.val (.ref 0), .val (.int x1), .val (.int x2), .val (.int x3), .val (.int x4), .val (.long y5), .unset] [] σ (c_evaluateGroup_55 k8 x1 x2 x3 x4 y5 σ) := by
  have hT := tabC hw "evaluateGroup"
  have hF := fsokC hw
  have wi := wiC hw
  unfold c_evaluateGroup_55
  refine am_blk (pc' := 67) (Ls' := [.val (.ref 0), .val (.int x1), .val (.int x2), .val (.int x3), .val (.int x4), .val (.long y5), .unset]) (St' := [.int x2, .int x4, .long y5, .ref 0, .int x4, .ref 9]) (σ' := σ) [.aload_n 0, .getfield 35, .iload 4, .aload_n 0, .lload 5, .iload 4, .iload_n 2] (by decide +kernel) hc hT hF wi (by exact rfl) ?_
  refine am_callP_J (W0 := 2) (argsL := [.long y5, .int x4, .int x2]) (rest := [.int x4, .ref 9]) rfl (lk_C_157 hw) rfl wi (by decide +kernel) hc (SubW.refl _) rfl (by show arity "(JII)J" 3 = true; decide +kernel) (ok_c_forceLane hw y5 x4 x2 _) rfl ⟨by decide, by decide, Nat.le_of_eq rfl, rfl, rfl, by decide, by decide⟩ (fun r1 hr => ?_)
  refine am_lastore (y := r1.1) rfl (by decide +kernel) hc rfl (fun hb0 => ?_)
  refine am_blk (pc' := 8) (Ls' := [.val (.ref 0), .val (.int x1), .val (.int x2), .val (.int x3), .val (.int (x4 + (1 : Int32))), .val (.long y5), .unset]) (St' := []) (σ' := sj r1.2 9 (nx x4) r1.1) [.iinc 4 1, .goto (-66)] (by decide +kernel) hc hT hF wi (by exact rfl) ?_
  exact am_wk (Ls' := [.val (.ref 0), .val (.int x1), .val (.int x2), .val (.int x3), .val (.int (x4 + (1 : Int32))), .unset, .unset]) (by simp [wkL]) (hk8 x1 x2 x3 (x4 + (1 : Int32)) (sj r1.2 9 (nx x4) r1.1))
def c_evaluateGroup_8 : Nat → Int32 → Int32 → Int32 → Int32 → Sg → Option Sg
  | 0, _, _, _, _, _ => none
  | fuel + 1, x1, x2, x3, x4, σ =>
    if x4 < x3 then (if x4 < (40 : Int32) then (if x4 < (gi σ 0 9) then ((c_inputLane x1 x4 σ).bind fun r1 => c_evaluateGroup_55 (c_evaluateGroup_8 fuel) x1 x2 x3 x4 r1.1 r1.2) else ((c_gateLane (x4 - (gi σ 0 9)) σ).bind fun r2 => c_evaluateGroup_55 (c_evaluateGroup_8 fuel) x1 x2 x3 x4 r2.1 r2.2)) else (some σ)) else (some σ)
set_option maxRecDepth 65536 in
set_option maxHeartbeats 4000000 in
theorem okc_c_evaluateGroup_8 (hw : WH a0 Z) (hc : Cx p s m meth c Z "LogicBist" prog_1_method_23_code 7 none "evaluateGroup") : ∀ (fuel : Nat) (x1 : Int32) (x2 : Int32) (x3 : Int32) (x4 : Int32) (σ : Sg), OkR p l e rm_c_evaluateGroup s m args below meth c Z "LogicBist" fsC n0 h0 (FM Z "LogicBist" fsC A wC h0 fV) A wC 0 0 8 [.val (.ref 0), .val (.int x1), .val (.int x2), .val (.int x3), .val (.int x4), .unset, .unset] [] σ (c_evaluateGroup_8 fuel x1 x2 x3 x4 σ) := by
  have hT := tabC hw "evaluateGroup"
  have hF := fsokC hw
  have wi := wiC hw
  intro fuel
  induction fuel with
  | zero => intro x1 x2 x3 x4 σ; exact am_none rfl
  | succ fuel ih =>
    intro x1 x2 x3 x4 σ
    rw [c_evaluateGroup_8]
    refine am_blk (pc' := 11) (Ls' := [.val (.ref 0), .val (.int x1), .val (.int x2), .val (.int x3), .val (.int x4), .unset, .unset]) (St' := [.int x3, .int x4]) (σ' := σ) [.iload 4, .iload_n 3] (by decide +kernel) hc hT hF wi (by exact rfl) ?_
    refine am_icmp_ge (o := 66) (pc1 := 77) (by decide +kernel) hc (fun hq => ?_) (fun hq => ?_)
    · refine am_blk (pc' := 18) (Ls' := [.val (.ref 0), .val (.int x1), .val (.int x2), .val (.int x3), .val (.int x4), .unset, .unset]) (St' := [.int (40 : Int32), .int x4]) (σ' := σ) [.iload 4, .bipush 40] (by decide +kernel) hc hT hF wi (by exact rfl) ?_
      refine am_icmp_ge (o := 59) (pc1 := 77) (by decide +kernel) hc (fun hq => ?_) (fun hq => ?_)
      · refine am_blk (pc' := 27) (Ls' := [.val (.ref 0), .val (.int x1), .val (.int x2), .val (.int x3), .val (.int x4), .unset, .unset]) (St' := [.int (gi σ 0 9), .int x4]) (σ' := σ) [.iload 4, .aload_n 0, .getfield 43] (by decide +kernel) hc hT hF wi (by exact rfl) ?_
        refine am_icmp_ge (o := 15) (pc1 := 42) (by decide +kernel) hc (fun hq => ?_) (fun hq => ?_)
        · refine am_blk (pc' := 34) (Ls' := [.val (.ref 0), .val (.int x1), .val (.int x2), .val (.int x3), .val (.int x4), .unset, .unset]) (St' := [.int x4, .int x1, .ref 0]) (σ' := σ) [.aload_n 0, .iload_n 1, .iload 4] (by decide +kernel) hc hT hF wi (by exact rfl) ?_
          refine am_callP_J (W0 := 0) (argsL := [.int x1, .int x4]) (rest := []) rfl (lk_C_149 hw) rfl wi (by decide +kernel) hc (SubW.refl _) rfl (by show arity "(II)J" 2 = true; decide +kernel) (ok_c_inputLane hw x1 x4 _) rfl ⟨by decide, by decide, Nat.le_of_eq rfl, rfl, rfl, by decide, by decide⟩ (fun r1 hr => ?_)
          refine am_blk (pc' := 55) (Ls' := [.val (.ref 0), .val (.int x1), .val (.int x2), .val (.int x3), .val (.int x4), .val (.long r1.1), .second]) (St' := []) (σ' := r1.2) [.lstore 5, .goto 16] (by decide +kernel) hc hT hF wi (by exact rfl) ?_
          exact am_wk (Ls' := [.val (.ref 0), .val (.int x1), .val (.int x2), .val (.int x3), .val (.int x4), .val (.long r1.1), .unset]) (by simp [wkL]) (okc_c_evaluateGroup_55 hw hc _ ih x1 x2 x3 x4 r1.1 r1.2)
        · refine am_blk (pc' := 50) (Ls' := [.val (.ref 0), .val (.int x1), .val (.int x2), .val (.int x3), .val (.int x4), .unset, .unset]) (St' := [.int (x4 - (gi σ 0 9)), .ref 0]) (σ' := σ) [.aload_n 0, .iload 4, .aload_n 0, .getfield 43, .isub] (by decide +kernel) hc hT hF wi (by exact rfl) ?_
          refine am_callP_J (W0 := 0) (argsL := [.int (x4 - (gi σ 0 9))]) (rest := []) rfl (lk_C_153 hw) rfl wi (by decide +kernel) hc (SubW.refl _) rfl (by show arity "(I)J" 1 = true; decide +kernel) (ok_c_gateLane hw (x4 - (gi σ 0 9)) _) rfl ⟨by decide, by decide, Nat.le_of_eq rfl, rfl, rfl, by decide, by decide⟩ (fun r2 hr => ?_)
          refine am_blk (pc' := 55) (Ls' := [.val (.ref 0), .val (.int x1), .val (.int x2), .val (.int x3), .val (.int x4), .val (.long r2.1), .second]) (St' := []) (σ' := r2.2) [.lstore 5] (by decide +kernel) hc hT hF wi (by exact rfl) ?_
          exact am_wk (Ls' := [.val (.ref 0), .val (.int x1), .val (.int x2), .val (.int x3), .val (.int x4), .val (.long r2.1), .unset]) (by simp [wkL]) (okc_c_evaluateGroup_55 hw hc _ ih x1 x2 x3 x4 r2.1 r2.2)
      · exact am_retV (by decide +kernel) hc (by decide) (by decide) (fun h W O => ⟨rfl, W, O⟩)
    · exact am_retV (by decide +kernel) hc (by decide) (by decide) (fun h W O => ⟨rfl, W, O⟩)
def c_evaluateGroup (x1 : Int32) (x2 : Int32) (σ : Sg) : Option Sg :=
  (c_signalCount σ).bind fun r1 => c_evaluateGroup_8 400 x1 x2 r1.1 (0 : Int32) r1.2
set_option maxRecDepth 65536 in
set_option maxHeartbeats 4000000 in
theorem ok_c_evaluateGroup (hw : WH a0 Z) (x1 : Int32) (x2 : Int32) (σ : Sg) : ∀ x, c_evaluateGroup x1 x2 σ = some x → Con l Z "LogicBist" fsC (⟨"LogicBist", "evaluateGroup", "(II)V"⟩ : MethodName) prog_1_method_23_code 7 none rm_c_evaluateGroup wC [.ref 0, .int x1, .int x2] σ (fV x).1 (fV x).2 := by
  refine am_con pnC ?_
  intro p e s m below meth c A n0 h0 hc
  have hT := tabC hw "evaluateGroup"
  have hF := fsokC hw
  have wi := wiC hw
  unfold c_evaluateGroup
  refine am_blk (pc' := 1) (Ls' := [.val (.ref 0), .val (.int x1), .val (.int x2), .unset, .unset, .unset, .unset]) (St' := [.ref 0]) (σ' := σ) [.aload_n 0] (by decide +kernel) hc hT hF wi (by exact rfl) ?_
  refine am_callP_I (W0 := 0) (argsL := []) (rest := []) rfl (lk_C_146 hw) rfl wi (by decide +kernel) hc (SubW.refl _) rfl (by show arity "()I" 0 = true; decide +kernel) (ok_c_signalCount hw _) rfl ⟨by decide, by decide, Nat.le_of_eq rfl, rfl, rfl, by decide, by decide⟩ (fun r1 hr => ?_)
  refine am_blk (pc' := 8) (Ls' := [.val (.ref 0), .val (.int x1), .val (.int x2), .val (.int r1.1), .val (.int (0 : Int32)), .unset, .unset]) (St' := []) (σ' := r1.2) [.istore_n 3, .iconst 0, .istore 4] (by decide +kernel) hc hT hF wi (by exact rfl) ?_
  exact am_wk (Ls' := [.val (.ref 0), .val (.int x1), .val (.int x2), .val (.int r1.1), .val (.int (0 : Int32)), .unset, .unset]) (by simp [wkL]) (okc_c_evaluateGroup_8 hw hc 400 x1 x2 r1.1 (0 : Int32) r1.2)
abbrev rm_c_outputWordAt : Room := { frames := 1, cells := 0, slots := 0, locals := 13 }
def c_outputWordAt_59 (k16 : Int32 → Int32 → Int32 → Sg → Option (Int32 × Sg)) (x1 : Int32) (x2 : Int32) (x3 : Int32) (σ : Sg) : Option (Int32 × Sg) :=
  k16 x1 x2 (x3 + (1 : Int32)) σ
set_option maxRecDepth 65536 in
set_option maxHeartbeats 4000000 in
theorem okc_c_outputWordAt_59 (hw : WH a0 Z) (hc : Cx p s m meth c Z "LogicBist" prog_1_method_29_code 6 (some .int) "outputWordAt") (k16 : Int32 → Int32 → Int32 → Sg → Option (Int32 × Sg)) (hk16 : ∀ (x1 : Int32) (x2 : Int32) (x3 : Int32) (σ : Sg), OkR p l e rm_c_outputWordAt s m args below meth c Z "LogicBist" fsC n0 h0 (FM Z "LogicBist" fsC A wC h0 fI) A wC 0 0 16 [.val (.ref 0), .val (.int x1), .val (.int x2), .val (.int x3), .unset, .unset] [] σ (k16 x1 x2 x3 σ)) (x1 : Int32) (x2 : Int32) (x3 : Int32) (σ : Sg) : OkR p l e rm_c_outputWordAt s m args below meth c Z "LogicBist" fsC n0 h0 (FM Z "LogicBist" fsC A wC h0 fI) A wC 0 0 59 [.val (.ref 0), .val (.int x1), .val (.int x2), .val (.int x3), .unset, .unset] [] σ (c_outputWordAt_59 k16 x1 x2 x3 σ) := by
  have hT := tabC hw "outputWordAt"
  have hF := fsokC hw
  have wi := wiC hw
  unfold c_outputWordAt_59
  refine am_blk (pc' := 16) (Ls' := [.val (.ref 0), .val (.int x1), .val (.int x2), .val (.int (x3 + (1 : Int32))), .unset, .unset]) (St' := []) (σ' := σ) [.iinc 3 1, .goto (-46)] (by decide +kernel) hc hT hF wi (by exact rfl) ?_
  exact am_wk (Ls' := [.val (.ref 0), .val (.int x1), .val (.int x2), .val (.int (x3 + (1 : Int32))), .unset, .unset]) (by simp [wkL]) (hk16 x1 x2 (x3 + (1 : Int32)) σ)
def c_outputWordAt_16 : Nat → Int32 → Int32 → Int32 → Sg → Option (Int32 × Sg)
  | 0, _, _, _, _ => none
  | fuel + 1, x1, x2, x3, σ =>
    if x3 < (gi σ 0 14) then (if x3 < (8 : Int32) then (if inb x3 8 = true then ((c_loadLane (gi σ 4 (nx x3)) σ).bind fun r1 => if (XT.cmpL ((XT.ushrL r1.1 x1) &&& (1 : Int64)) (0 : Int64)) = 0 then (c_outputWordAt_59 (c_outputWordAt_16 fuel) x1 x2 x3 r1.2) else (c_outputWordAt_59 (c_outputWordAt_16 fuel) x1 (x2 ||| ((1 : Int32) <<< (x3 &&& 31))) x3 r1.2)) else none) else (some (x2, σ))) else (some (x2, σ))
set_option maxRecDepth 65536 in
set_option maxHeartbeats 4000000 in
theorem okc_c_outputWordAt_16 (hw : WH a0 Z) (hc : Cx p s m meth c Z "LogicBist" prog_1_method_29_code 6 (some .int) "outputWordAt") : ∀ (fuel : Nat) (x1 : Int32) (x2 : Int32) (x3 : Int32) (σ : Sg), OkR p l e rm_c_outputWordAt s m args below meth c Z "LogicBist" fsC n0 h0 (FM Z "LogicBist" fsC A wC h0 fI) A wC 0 0 16 [.val (.ref 0), .val (.int x1), .val (.int x2), .val (.int x3), .unset, .unset] [] σ (c_outputWordAt_16 fuel x1 x2 x3 σ) := by
  have hT := tabC hw "outputWordAt"
  have hF := fsokC hw
  have wi := wiC hw
  intro fuel
  induction fuel with
  | zero => intro x1 x2 x3 σ; exact am_none rfl
  | succ fuel ih =>
    intro x1 x2 x3 σ
    rw [c_outputWordAt_16]
    refine am_blk (pc' := 21) (Ls' := [.val (.ref 0), .val (.int x1), .val (.int x2), .val (.int x3), .unset, .unset]) (St' := [.int (gi σ 0 14), .int x3]) (σ' := σ) [.iload_n 3, .aload_n 0, .getfield 59] (by decide +kernel) hc hT hF wi (by exact rfl) ?_
    refine am_icmp_ge (o := 44) (pc1 := 65) (by decide +kernel) hc (fun hq => ?_) (fun hq => ?_)
    · refine am_blk (pc' := 27) (Ls' := [.val (.ref 0), .val (.int x1), .val (.int x2), .val (.int x3), .unset, .unset]) (St' := [.int (8 : Int32), .int x3]) (σ' := σ) [.iload_n 3, .bipush 8] (by decide +kernel) hc hT hF wi (by exact rfl) ?_
      refine am_icmp_ge (o := 38) (pc1 := 65) (by decide +kernel) hc (fun hq => ?_) (fun hq => ?_)
      · refine am_blk (pc' := 36) (Ls' := [.val (.ref 0), .val (.int x1), .val (.int x2), .val (.int x3), .unset, .unset]) (St' := [.int x3, .ref 4, .ref 0]) (σ' := σ) [.aload_n 0, .aload_n 0, .getfield 19, .iload_n 3] (by decide +kernel) hc hT hF wi (by exact rfl) ?_
        refine am_iaload (by decide +kernel) hc rfl (fun hb0 => ?_)
        refine am_callP_J (W0 := 0) (argsL := [.int (gi σ 4 (nx x3))]) (rest := []) rfl (lk_C_163 hw) rfl wi (by decide +kernel) hc (SubW.refl _) rfl (by show arity "(I)J" 1 = true; decide +kernel) (ok_c_loadLane hw (gi σ 4 (nx x3)) _) rfl ⟨by decide, by decide, Nat.le_of_eq rfl, rfl, rfl, by decide, by decide⟩ (fun r1 hr => ?_)
        refine am_blk (pc' := 50) (Ls' := [.val (.ref 0), .val (.int x1), .val (.int x2), .val (.int x3), .val (.long r1.1), .second]) (St' := [.int (XT.cmpL ((XT.ushrL r1.1 x1) &&& (1 : Int64)) (0 : Int64))]) (σ' := r1.2) [.lstore 4, .lload 4, .iload_n 1, .lushr, .lconst 1, .land, .lconst 0, .lcmp] (by decide +kernel) hc hT hF wi (by exact rfl) ?_
        refine am_if_eq (o := 9) (pc1 := 59) (by decide +kernel) hc (fun hq => ?_) (fun hq => ?_)
        · exact am_wk (Ls' := [.val (.ref 0), .val (.int x1), .val (.int x2), .val (.int x3), .unset, .unset]) (by simp [wkL]) (okc_c_outputWordAt_59 hw hc _ ih x1 x2 x3 r1.2)
        · refine am_blk (pc' := 59) (Ls' := [.val (.ref 0), .val (.int x1), .val (.int (x2 ||| ((1 : Int32) <<< (x3 &&& 31)))), .val (.int x3), .val (.long r1.1), .second]) (St' := []) (σ' := r1.2) [.iload_n 2, .iconst 1, .iload_n 3, .ishl, .ior, .istore_n 2] (by decide +kernel) hc hT hF wi (by exact rfl) ?_
          exact am_wk (Ls' := [.val (.ref 0), .val (.int x1), .val (.int (x2 ||| ((1 : Int32) <<< (x3 &&& 31)))), .val (.int x3), .unset, .unset]) (by simp [wkL]) (okc_c_outputWordAt_59 hw hc _ ih x1 (x2 ||| ((1 : Int32) <<< (x3 &&& 31))) x3 r1.2)
      · refine am_blk (pc' := 66) (Ls' := [.val (.ref 0), .val (.int x1), .val (.int x2), .val (.int x3), .unset, .unset]) (St' := [.int x2]) (σ' := σ) [.iload_n 2] (by decide +kernel) hc hT hF wi (by exact rfl) ?_
        exact am_retI (by decide +kernel) hc (by decide) (by decide) (fun h W O => ⟨rfl, W, O⟩)
    · refine am_blk (pc' := 66) (Ls' := [.val (.ref 0), .val (.int x1), .val (.int x2), .val (.int x3), .unset, .unset]) (St' := [.int x2]) (σ' := σ) [.iload_n 2] (by decide +kernel) hc hT hF wi (by exact rfl) ?_
      exact am_retI (by decide +kernel) hc (by decide) (by decide) (fun h W O => ⟨rfl, W, O⟩)
def c_outputWordAt (x1 : Int32) (σ : Sg) : Option (Int32 × Sg) :=
  if x1 < 0 then (some ((0 : Int32), σ)) else (if (63 : Int32) < x1 then (some ((0 : Int32), σ)) else (c_outputWordAt_16 400 x1 (0 : Int32) (0 : Int32) σ))
set_option maxRecDepth 65536 in
set_option maxHeartbeats 4000000 in
theorem ok_c_outputWordAt (hw : WH a0 Z) (x1 : Int32) (σ : Sg) : ∀ x, c_outputWordAt x1 σ = some x → Con l Z "LogicBist" fsC (⟨"LogicBist", "outputWordAt", "(I)I"⟩ : MethodName) prog_1_method_29_code 6 (some .int) rm_c_outputWordAt wC [.ref 0, .int x1] σ (fI x).1 (fI x).2 := by
  refine am_con pnC ?_
  intro p e s m below meth c A n0 h0 hc
  have hT := tabC hw "outputWordAt"
  have hF := fsokC hw
  have wi := wiC hw
  unfold c_outputWordAt
  refine am_blk (pc' := 1) (Ls' := [.val (.ref 0), .val (.int x1), .unset, .unset, .unset, .unset]) (St' := [.int x1]) (σ' := σ) [.iload_n 1] (by decide +kernel) hc hT hF wi (by exact rfl) ?_
  refine am_if_lt (o := 9) (pc1 := 10) (by decide +kernel) hc (fun hq => ?_) (fun hq => ?_)
  · refine am_blk (pc' := 11) (Ls' := [.val (.ref 0), .val (.int x1), .unset, .unset, .unset, .unset]) (St' := [.int (0 : Int32)]) (σ' := σ) [.iconst 0] (by decide +kernel) hc hT hF wi (by exact rfl) ?_
    exact am_retI (by decide +kernel) hc (by decide) (by decide) (fun h W O => ⟨rfl, W, O⟩)
  · refine am_blk (pc' := 7) (Ls' := [.val (.ref 0), .val (.int x1), .unset, .unset, .unset, .unset]) (St' := [.int (63 : Int32), .int x1]) (σ' := σ) [.iload_n 1, .bipush 63] (by decide +kernel) hc hT hF wi (by exact rfl) ?_
    refine am_icmp_le (o := 5) (pc1 := 12) (by decide +kernel) hc (fun hq => ?_) (fun hq => ?_)
    · refine am_blk (pc' := 11) (Ls' := [.val (.ref 0), .val (.int x1), .unset, .unset, .unset, .unset]) (St' := [.int (0 : Int32)]) (σ' := σ) [.iconst 0] (by decide +kernel) hc hT hF wi (by exact rfl) ?_
      exact am_retI (by decide +kernel) hc (by decide) (by decide) (fun h W O => ⟨rfl, W, O⟩)
    · refine am_blk (pc' := 16) (Ls' := [.val (.ref 0), .val (.int x1), .val (.int (0 : Int32)), .val (.int (0 : Int32)), .unset, .unset]) (St' := []) (σ' := σ) [.iconst 0, .istore_n 2, .iconst 0, .istore_n 3] (by decide +kernel) hc hT hF wi (by exact rfl) ?_
      exact am_wk (Ls' := [.val (.ref 0), .val (.int x1), .val (.int (0 : Int32)), .val (.int (0 : Int32)), .unset, .unset]) (by simp [wkL]) (okc_c_outputWordAt_16 hw hc 400 x1 (0 : Int32) (0 : Int32) σ)
abbrev rm_c_isFault : Room := { frames := 2, cells := 0, slots := 0, locals := 26 }
def c_isFault (x1 : Int32) (σ : Sg) : Option (Int32 × Sg) :=
  if x1 < 0 then (some ((0 : Int32), σ)) else ((c_faultCount σ).bind fun r1 => if x1 < r1.1 then (some ((1 : Int32), r1.2)) else (some ((0 : Int32), r1.2)))
set_option maxRecDepth 65536 in
set_option maxHeartbeats 4000000 in
theorem ok_c_isFault (hw : WH a0 Z) (x1 : Int32) (σ : Sg) : ∀ x, c_isFault x1 σ = some x → Con l Z "LogicBist" fsC (⟨"LogicBist", "isFault", "(I)Z"⟩ : MethodName) prog_1_method_41_code 2 (some .boolean) rm_c_isFault wC [.ref 0, .int x1] σ (fI x).1 (fI x).2 := by
  refine am_con pnC ?_
  intro p e s m below meth c A n0 h0 hc
  have hT := tabC hw "isFault"
  have hF := fsokC hw
  have wi := wiC hw
  unfold c_isFault
  refine am_blk (pc' := 1) (Ls' := [.val (.ref 0), .val (.int x1)]) (St' := [.int x1]) (σ' := σ) [.iload_n 1] (by decide +kernel) hc hT hF wi (by exact rfl) ?_
  refine am_if_lt (o := 15) (pc1 := 16) (by decide +kernel) hc (fun hq => ?_) (fun hq => ?_)
  · refine am_blk (pc' := 17) (Ls' := [.val (.ref 0), .val (.int x1)]) (St' := [.int (0 : Int32)]) (σ' := σ) [.iconst 0] (by decide +kernel) hc hT hF wi (by exact rfl) ?_
    exact am_retZ (by decide +kernel) hc (by decide) (by decide) (fun h W O => ⟨rfl, W, O⟩)
  · refine am_blk (pc' := 6) (Ls' := [.val (.ref 0), .val (.int x1)]) (St' := [.ref 0, .int x1]) (σ' := σ) [.iload_n 1, .aload_n 0] (by decide +kernel) hc hT hF wi (by exact rfl) ?_
    refine am_callP_I (W0 := 1) (argsL := []) (rest := [.int x1]) rfl (lk_C_118 hw) rfl wi (by decide +kernel) hc (SubW.refl _) rfl (by show arity "()I" 0 = true; decide +kernel) (ok_c_faultCount hw _) rfl ⟨by decide, by decide, Nat.le_of_eq rfl, rfl, rfl, by decide, by decide⟩ (fun r1 hr => ?_)
    refine am_icmp_ge (o := 7) (pc1 := 16) (by decide +kernel) hc (fun hq => ?_) (fun hq => ?_)
    · refine am_blk (pc' := 17) (Ls' := [.val (.ref 0), .val (.int x1)]) (St' := [.int (1 : Int32)]) (σ' := r1.2) [.iconst 1, .goto 4] (by decide +kernel) hc hT hF wi (by exact rfl) ?_
      exact am_retZ (by decide +kernel) hc (by decide) (by decide) (fun h W O => ⟨rfl, W, O⟩)
    · refine am_blk (pc' := 17) (Ls' := [.val (.ref 0), .val (.int x1)]) (St' := [.int (0 : Int32)]) (σ' := r1.2) [.iconst 0] (by decide +kernel) hc hT hF wi (by exact rfl) ?_
      exact am_retZ (by decide +kernel) hc (by decide) (by decide) (fun h W O => ⟨rfl, W, O⟩)
abbrev rm_c_groupOfFault : Room := { frames := 0, cells := 0, slots := 0, locals := 0 }
def c_groupOfFault (x1 : Int32) (σ : Sg) : Option (Int32 × Sg) :=
  some (XT.ushr x1 (6 : Int32), σ)
set_option maxRecDepth 65536 in
set_option maxHeartbeats 4000000 in
theorem ok_c_groupOfFault (hw : WH a0 Z) (x1 : Int32) (σ : Sg) : ∀ x, c_groupOfFault x1 σ = some x → Con l Z "LogicBist" fsC (⟨"LogicBist", "groupOfFault", "(I)I"⟩ : MethodName) prog_1_method_37_code 2 (some .int) rm_c_groupOfFault wC [.ref 0, .int x1] σ (fI x).1 (fI x).2 := by
  refine am_con pnC ?_
  intro p e s m below meth c A n0 h0 hc
  have hT := tabC hw "groupOfFault"
  have hF := fsokC hw
  have wi := wiC hw
  unfold c_groupOfFault
  refine am_blk (pc' := 4) (Ls' := [.val (.ref 0), .val (.int x1)]) (St' := [.int (XT.ushr x1 (6 : Int32))]) (σ' := σ) [.iload_n 1, .bipush 6, .iushr] (by decide +kernel) hc hT hF wi (by exact rfl) ?_
  exact am_retI (by decide +kernel) hc (by decide) (by decide) (fun h W O => ⟨rfl, W, O⟩)
abbrev rm_c_laneOfFault : Room := { frames := 0, cells := 0, slots := 0, locals := 0 }
def c_laneOfFault (x1 : Int32) (σ : Sg) : Option (Int32 × Sg) :=
  some (x1 &&& (63 : Int32), σ)
set_option maxRecDepth 65536 in
set_option maxHeartbeats 4000000 in
theorem ok_c_laneOfFault (hw : WH a0 Z) (x1 : Int32) (σ : Sg) : ∀ x, c_laneOfFault x1 σ = some x → Con l Z "LogicBist" fsC (⟨"LogicBist", "laneOfFault", "(I)I"⟩ : MethodName) prog_1_method_38_code 2 (some .int) rm_c_laneOfFault wC [.ref 0, .int x1] σ (fI x).1 (fI x).2 := by
  refine am_con pnC ?_
  intro p e s m below meth c A n0 h0 hc
  have hT := tabC hw "laneOfFault"
  have hF := fsokC hw
  have wi := wiC hw
  unfold c_laneOfFault
  refine am_blk (pc' := 4) (Ls' := [.val (.ref 0), .val (.int x1)]) (St' := [.int (x1 &&& (63 : Int32))]) (σ' := σ) [.iload_n 1, .bipush 63, .iand] (by decide +kernel) hc hT hF wi (by exact rfl) ?_
  exact am_retI (by decide +kernel) hc (by decide) (by decide) (fun h W O => ⟨rfl, W, O⟩)
abbrev rm_c_simulate : Room := { frames := 3, cells := 0, slots := 0, locals := 53 }
def c_simulate (x1 : Int32) (x2 : Int32) (σ : Sg) : Option (Int32 × Sg) :=
  if x2 = (-1 : Int32) then ((c_evaluateGroup x1 (-1 : Int32) σ).bind fun r1 => (c_outputWordAt (0 : Int32) r1).bind fun r2 => some (r2.1, r2.2)) else ((c_isFault x2 σ).bind fun r3 => if r3.1 = 0 then (some ((-1 : Int32), r3.2)) else ((c_groupOfFault x2 r3.2).bind fun r4 => (c_evaluateGroup x1 r4.1 r4.2).bind fun r5 => (c_laneOfFault x2 r5).bind fun r6 => (c_outputWordAt r6.1 r6.2).bind fun r7 => some (r7.1, r7.2)))
set_option maxRecDepth 65536 in
set_option maxHeartbeats 4000000 in
theorem ok_c_simulate (hw : WH a0 Z) (x1 : Int32) (x2 : Int32) (σ : Sg) : ∀ x, c_simulate x1 x2 σ = some x → Con l Z "LogicBist" fsC (⟨"LogicBist", "simulate", "(II)I"⟩ : MethodName) prog_1_method_8_code 3 (some .int) rm_c_simulate wC [.ref 0, .int x1, .int x2] σ (fI x).1 (fI x).2 := by
  refine am_con pnC ?_
  intro p e s m below meth c A n0 h0 hc
  have hT := tabC hw "simulate"
  have hF := fsokC hw
  have wi := wiC hw
  unfold c_simulate
  refine am_blk (pc' := 2) (Ls' := [.val (.ref 0), .val (.int x1), .val (.int x2)]) (St' := [.int (-1 : Int32), .int x2]) (σ' := σ) [.iload_n 2, .iconst (-1)] (by decide +kernel) hc hT hF wi (by exact rfl) ?_
  refine am_icmp_ne (o := 15) (pc1 := 17) (by decide +kernel) hc (fun hq => ?_) (fun hq => ?_)
  · refine am_blk (pc' := 8) (Ls' := [.val (.ref 0), .val (.int x1), .val (.int x2)]) (St' := [.int (-1 : Int32), .int x1, .ref 0]) (σ' := σ) [.aload_n 0, .iload_n 1, .iconst (-1)] (by decide +kernel) hc hT hF wi (by exact rfl) ?_
    refine am_callP_V (W0 := 0) (argsL := [.int x1, .int (-1 : Int32)]) (rest := []) rfl (lk_C_95 hw) rfl wi (by decide +kernel) hc (SubW.refl _) rfl (by show arity "(II)V" 2 = true; decide +kernel) (ok_c_evaluateGroup hw x1 (-1 : Int32) _) rfl ⟨by decide, by decide, Nat.le_of_eq rfl, rfl, rfl, by decide, by decide⟩ (fun r1 hr => ?_)
    refine am_blk (pc' := 13) (Ls' := [.val (.ref 0), .val (.int x1), .val (.int x2)]) (St' := [.int (0 : Int32), .ref 0]) (σ' := r1) [.aload_n 0, .iconst 0] (by decide +kernel) hc hT hF wi (by exact rfl) ?_
    refine am_callP_I (W0 := 0) (argsL := [.int (0 : Int32)]) (rest := []) rfl (lk_C_99 hw) rfl wi (by decide +kernel) hc (SubW.refl _) rfl (by show arity "(I)I" 1 = true; decide +kernel) (ok_c_outputWordAt hw (0 : Int32) _) rfl ⟨by decide, by decide, Nat.le_of_eq rfl, rfl, rfl, by decide, by decide⟩ (fun r2 hr => ?_)
    exact am_retI (by decide +kernel) hc (by decide) (by decide) (fun h W O => ⟨rfl, W, O⟩)
  · refine am_blk (pc' := 19) (Ls' := [.val (.ref 0), .val (.int x1), .val (.int x2)]) (St' := [.int x2, .ref 0]) (σ' := σ) [.aload_n 0, .iload_n 2] (by decide +kernel) hc hT hF wi (by exact rfl) ?_
    refine am_callP_I (W0 := 0) (argsL := [.int x2]) (rest := []) rfl (lk_C_103 hw) rfl wi (by decide +kernel) hc (SubW.refl _) rfl (by show arity "(I)Z" 1 = true; decide +kernel) (ok_c_isFault hw x2 _) rfl ⟨by decide, by decide, Nat.le_of_eq rfl, rfl, rfl, by decide, by decide⟩ (fun r3 hr => ?_)
    refine am_if_ne (o := 5) (pc1 := 27) (by decide +kernel) hc (fun hq => ?_) (fun hq => ?_)
    · refine am_blk (pc' := 26) (Ls' := [.val (.ref 0), .val (.int x1), .val (.int x2)]) (St' := [.int (-1 : Int32)]) (σ' := r3.2) [.iconst (-1)] (by decide +kernel) hc hT hF wi (by exact rfl) ?_
      exact am_retI (by decide +kernel) hc (by decide) (by decide) (fun h W O => ⟨rfl, W, O⟩)
    · refine am_blk (pc' := 31) (Ls' := [.val (.ref 0), .val (.int x1), .val (.int x2)]) (St' := [.int x2, .ref 0, .int x1, .ref 0]) (σ' := r3.2) [.aload_n 0, .iload_n 1, .aload_n 0, .iload_n 2] (by decide +kernel) hc hT hF wi (by exact rfl) ?_
      refine am_callP_I (W0 := 2) (argsL := [.int x2]) (rest := [.int x1, .ref 0]) rfl (lk_C_106 hw) rfl wi (by decide +kernel) hc (SubW.refl _) rfl (by show arity "(I)I" 1 = true; decide +kernel) (ok_c_groupOfFault hw x2 _) rfl ⟨by decide, by decide, Nat.le_of_eq rfl, rfl, rfl, by decide, by decide⟩ (fun r4 hr => ?_)
      refine am_callP_V (W0 := 0) (argsL := [.int x1, .int r4.1]) (rest := []) rfl (lk_C_95 hw) rfl wi (by decide +kernel) hc (SubW.refl _) rfl (by show arity "(II)V" 2 = true; decide +kernel) (ok_c_evaluateGroup hw x1 r4.1 _) rfl ⟨by decide, by decide, Nat.le_of_eq rfl, rfl, rfl, by decide, by decide⟩ (fun r5 hr => ?_)
      refine am_blk (pc' := 40) (Ls' := [.val (.ref 0), .val (.int x1), .val (.int x2)]) (St' := [.int x2, .ref 0, .ref 0]) (σ' := r5) [.aload_n 0, .aload_n 0, .iload_n 2] (by decide +kernel) hc hT hF wi (by exact rfl) ?_
      refine am_callP_I (W0 := 1) (argsL := [.int x2]) (rest := [.ref 0]) rfl (lk_C_109 hw) rfl wi (by decide +kernel) hc (SubW.refl _) rfl (by show arity "(I)I" 1 = true; decide +kernel) (ok_c_laneOfFault hw x2 _) rfl ⟨by decide, by decide, Nat.le_of_eq rfl, rfl, rfl, by decide, by decide⟩ (fun r6 hr => ?_)
      refine am_callP_I (W0 := 0) (argsL := [.int r6.1]) (rest := []) rfl (lk_C_99 hw) rfl wi (by decide +kernel) hc (SubW.refl _) rfl (by show arity "(I)I" 1 = true; decide +kernel) (ok_c_outputWordAt hw r6.1 _) rfl ⟨by decide, by decide, Nat.le_of_eq rfl, rfl, rfl, by decide, by decide⟩ (fun r7 hr => ?_)
      exact am_retI (by decide +kernel) hc (by decide) (by decide) (fun h W O => ⟨rfl, W, O⟩)
abbrev rm_q_misr : Room := { frames := 0, cells := 0, slots := 0, locals := 0 }
def q_misr_48 (k22 : Int32 → Int32 → Int32 → Int32 → Sg → Option (Int32 × Sg)) (x0 : Int32) (x1 : Int32) (x3 : Int32) (x5 : Int32) (σ : Sg) : Option (Int32 × Sg) :=
  k22 x0 x1 x3 (x5 + (1 : Int32)) σ
set_option maxRecDepth 65536 in
set_option maxHeartbeats 4000000 in
theorem okc_q_misr_48 (hw : WH a0 Z) (hc : Cx p s m meth c Z "LogicBistOwnLaw" method_5_code 6 (some .int) "misr") (k22 : Int32 → Int32 → Int32 → Int32 → Sg → Option (Int32 × Sg)) (hk22 : ∀ (x0 : Int32) (x1 : Int32) (x3 : Int32) (x5 : Int32) (σ : Sg), OkR p l e rm_q_misr s m args below meth c Z "LogicBist" fsC n0 h0 (FM Z "LogicBist" fsC A w h0 fI) A w 0 0 22 [.val (.int x0), .val (.int x1), .unset, .val (.int x3), .unset, .val (.int x5)] [] σ (k22 x0 x1 x3 x5 σ)) (x0 : Int32) (x1 : Int32) (x3 : Int32) (x5 : Int32) (σ : Sg) : OkR p l e rm_q_misr s m args below meth c Z "LogicBist" fsC n0 h0 (FM Z "LogicBist" fsC A w h0 fI) A w 0 0 48 [.val (.int x0), .val (.int x1), .unset, .val (.int x3), .unset, .val (.int x5)] [] σ (q_misr_48 k22 x0 x1 x3 x5 σ) := by
  have hT := tabL hw "misr"
  have hF := fsokC hw
  have wi := wiC hw
  unfold q_misr_48
  refine am_blk (pc' := 22) (Ls' := [.val (.int x0), .val (.int x1), .unset, .val (.int x3), .unset, .val (.int (x5 + (1 : Int32)))]) (St' := []) (σ' := σ) [.iinc 5 1, .goto (-29)] (by decide +kernel) hc hT hF wi (by exact rfl) ?_
  exact am_wk (Ls' := [.val (.int x0), .val (.int x1), .unset, .val (.int x3), .unset, .val (.int (x5 + (1 : Int32)))]) (by simp [wkL]) (hk22 x0 x1 x3 (x5 + (1 : Int32)) σ)
def q_misr_22 : Nat → Int32 → Int32 → Int32 → Int32 → Sg → Option (Int32 × Sg)
  | 0, _, _, _, _, _ => none
  | fuel + 1, x0, x1, x3, x5, σ =>
    if x5 < (8 : Int32) then (if ((XT.ushr x1 x5) &&& (1 : Int32)) = (1 : Int32) then (if x3 = 0 then none else (q_misr_48 (q_misr_22 fuel) (x0 ^^^ ((1 : Int32) <<< ((x5 % x3) &&& 31))) x1 x3 x5 σ)) else (q_misr_48 (q_misr_22 fuel) x0 x1 x3 x5 σ)) else (some (x0, σ))
set_option maxRecDepth 65536 in
set_option maxHeartbeats 4000000 in
theorem okc_q_misr_22 (hw : WH a0 Z) (hc : Cx p s m meth c Z "LogicBistOwnLaw" method_5_code 6 (some .int) "misr") : ∀ (fuel : Nat) (x0 : Int32) (x1 : Int32) (x3 : Int32) (x5 : Int32) (σ : Sg), OkR p l e rm_q_misr s m args below meth c Z "LogicBist" fsC n0 h0 (FM Z "LogicBist" fsC A w h0 fI) A w 0 0 22 [.val (.int x0), .val (.int x1), .unset, .val (.int x3), .unset, .val (.int x5)] [] σ (q_misr_22 fuel x0 x1 x3 x5 σ) := by
  have hT := tabL hw "misr"
  have hF := fsokC hw
  have wi := wiC hw
  intro fuel
  induction fuel with
  | zero => intro x0 x1 x3 x5 σ; exact am_none rfl
  | succ fuel ih =>
    intro x0 x1 x3 x5 σ
    rw [q_misr_22]
    refine am_blk (pc' := 26) (Ls' := [.val (.int x0), .val (.int x1), .unset, .val (.int x3), .unset, .val (.int x5)]) (St' := [.int (8 : Int32), .int x5]) (σ' := σ) [.iload 5, .bipush 8] (by decide +kernel) hc hT hF wi (by exact rfl) ?_
    refine am_icmp_ge (o := 28) (pc1 := 54) (by decide +kernel) hc (fun hq => ?_) (fun hq => ?_)
    · refine am_blk (pc' := 36) (Ls' := [.val (.int x0), .val (.int x1), .unset, .val (.int x3), .unset, .val (.int x5)]) (St' := [.int (1 : Int32), .int ((XT.ushr x1 x5) &&& (1 : Int32))]) (σ' := σ) [.iload_n 1, .iload 5, .iushr, .iconst 1, .iand, .iconst 1] (by decide +kernel) hc hT hF wi (by exact rfl) ?_
      refine am_icmp_ne (o := 12) (pc1 := 48) (by decide +kernel) hc (fun hq => ?_) (fun hq => ?_)
      · refine am_blk (pc' := 44) (Ls' := [.val (.int x0), .val (.int x1), .unset, .val (.int x3), .unset, .val (.int x5)]) (St' := [.int x3, .int x5, .int (1 : Int32), .int x0]) (σ' := σ) [.iload_n 0, .iconst 1, .iload 5, .iload_n 3] (by decide +kernel) hc hT hF wi (by exact rfl) ?_
        refine am_irem (by decide +kernel) hc (fun hy => ?_)
        refine am_blk (pc' := 48) (Ls' := [.val (.int (x0 ^^^ ((1 : Int32) <<< ((x5 % x3) &&& 31)))), .val (.int x1), .unset, .val (.int x3), .unset, .val (.int x5)]) (St' := []) (σ' := σ) [.ishl, .ixor, .istore_n 0] (by decide +kernel) hc hT hF wi (by exact rfl) ?_
        exact am_wk (Ls' := [.val (.int (x0 ^^^ ((1 : Int32) <<< ((x5 % x3) &&& 31)))), .val (.int x1), .unset, .val (.int x3), .unset, .val (.int x5)]) (by simp [wkL]) (okc_q_misr_48 hw hc _ ih (x0 ^^^ ((1 : Int32) <<< ((x5 % x3) &&& 31))) x1 x3 x5 σ)
      · exact am_wk (Ls' := [.val (.int x0), .val (.int x1), .unset, .val (.int x3), .unset, .val (.int x5)]) (by simp [wkL]) (okc_q_misr_48 hw hc _ ih x0 x1 x3 x5 σ)
    · refine am_blk (pc' := 55) (Ls' := [.val (.int x0), .val (.int x1), .unset, .val (.int x3), .unset, .val (.int x5)]) (St' := [.int x0]) (σ' := σ) [.iload_n 0] (by decide +kernel) hc hT hF wi (by exact rfl) ?_
      exact am_retI (by decide +kernel) hc (by decide) (by decide) (fun h W O => ⟨rfl, W, O⟩)
def q_misr_19 (x0 : Int32) (x1 : Int32) (x3 : Int32) (σ : Sg) : Option (Int32 × Sg) :=
  q_misr_22 400 x0 x1 x3 (0 : Int32) σ
set_option maxRecDepth 65536 in
set_option maxHeartbeats 4000000 in
theorem okc_q_misr_19 (hw : WH a0 Z) (hc : Cx p s m meth c Z "LogicBistOwnLaw" method_5_code 6 (some .int) "misr") (x0 : Int32) (x1 : Int32) (x3 : Int32) (σ : Sg) : OkR p l e rm_q_misr s m args below meth c Z "LogicBist" fsC n0 h0 (FM Z "LogicBist" fsC A w h0 fI) A w 0 0 19 [.val (.int x0), .val (.int x1), .unset, .val (.int x3), .unset, .unset] [] σ (q_misr_19 x0 x1 x3 σ) := by
  have hT := tabL hw "misr"
  have hF := fsokC hw
  have wi := wiC hw
  unfold q_misr_19
  refine am_blk (pc' := 22) (Ls' := [.val (.int x0), .val (.int x1), .unset, .val (.int x3), .unset, .val (.int (0 : Int32))]) (St' := []) (σ' := σ) [.iconst 0, .istore 5] (by decide +kernel) hc hT hF wi (by exact rfl) ?_
  exact am_wk (Ls' := [.val (.int x0), .val (.int x1), .unset, .val (.int x3), .unset, .val (.int (0 : Int32))]) (by simp [wkL]) (okc_q_misr_22 hw hc 400 x0 x1 x3 (0 : Int32) σ)
def q_misr (x0 : Int32) (x1 : Int32) (x2 : Int32) (x3 : Int32) (σ : Sg) : Option (Int32 × Sg) :=
  if (x0 &&& (1 : Int32)) = (1 : Int32) then (q_misr_19 ((XT.ushr x0 (1 : Int32)) ^^^ x2) x1 x3 σ) else (q_misr_19 (XT.ushr x0 (1 : Int32)) x1 x3 σ)
set_option maxRecDepth 65536 in
set_option maxHeartbeats 4000000 in
theorem ok_q_misr (hw : WH a0 Z) (x0 : Int32) (x1 : Int32) (x2 : Int32) (x3 : Int32) (σ : Sg) : ∀ x, q_misr x0 x1 x2 x3 σ = some x → Con l Z "LogicBist" fsC (⟨"LogicBistOwnLaw", "misr", "(IIII)I"⟩ : MethodName) method_5_code 6 (some .int) rm_q_misr w [.int x0, .int x1, .int x2, .int x3] σ (fI x).1 (fI x).2 := by
  refine am_con pnL ?_
  intro p e s m below meth c A n0 h0 hc
  have hT := tabL hw "misr"
  have hF := fsokC hw
  have wi := wiC hw
  unfold q_misr
  refine am_blk (pc' := 12) (Ls' := [.val (.int (XT.ushr x0 (1 : Int32))), .val (.int x1), .val (.int x2), .val (.int x3), .val (.int (x0 &&& (1 : Int32))), .unset]) (St' := [.int (1 : Int32), .int (x0 &&& (1 : Int32))]) (σ' := σ) [.iload_n 0, .iconst 1, .iand, .istore 4, .iload_n 0, .iconst 1, .iushr, .istore_n 0, .iload 4, .iconst 1] (by decide +kernel) hc hT hF wi (by exact rfl) ?_
  refine am_icmp_ne (o := 7) (pc1 := 19) (by decide +kernel) hc (fun hq => ?_) (fun hq => ?_)
  · refine am_blk (pc' := 19) (Ls' := [.val (.int ((XT.ushr x0 (1 : Int32)) ^^^ x2)), .val (.int x1), .val (.int x2), .val (.int x3), .val (.int (x0 &&& (1 : Int32))), .unset]) (St' := []) (σ' := σ) [.iload_n 0, .iload_n 2, .ixor, .istore_n 0] (by decide +kernel) hc hT hF wi (by exact rfl) ?_
    exact am_wk (Ls' := [.val (.int ((XT.ushr x0 (1 : Int32)) ^^^ x2)), .val (.int x1), .unset, .val (.int x3), .unset, .unset]) (by simp [wkL]) (okc_q_misr_19 hw hc ((XT.ushr x0 (1 : Int32)) ^^^ x2) x1 x3 σ)
  · exact am_wk (Ls' := [.val (.int (XT.ushr x0 (1 : Int32))), .val (.int x1), .unset, .val (.int x3), .unset, .unset]) (by simp [wkL]) (okc_q_misr_19 hw hc (XT.ushr x0 (1 : Int32)) x1 x3 σ)
abbrev rm_q_lfsr : Room := { frames := 0, cells := 0, slots := 0, locals := 0 }
def q_lfsr (x0 : Int32) (σ : Sg) : Option (Int32 × Sg) :=
  if (x0 &&& (1 : Int32)) = (1 : Int32) then (some ((XT.ushr x0 (1 : Int32)) ^^^ (46080 : Int32), σ)) else (some (XT.ushr x0 (1 : Int32), σ))
set_option maxRecDepth 65536 in
set_option maxHeartbeats 4000000 in
theorem ok_q_lfsr (hw : WH a0 Z) (x0 : Int32) (σ : Sg) : ∀ x, q_lfsr x0 σ = some x → Con l Z "LogicBist" fsC (⟨"LogicBistOwnLaw", "lfsr", "(I)I"⟩ : MethodName) method_4_code 2 (some .int) rm_q_lfsr w [.int x0] σ (fI x).1 (fI x).2 := by
  refine am_con pnL ?_
  intro p e s m below meth c A n0 h0 hc
  have hT := tabL hw "lfsr"
  have hF := fsokC hw
  have wi := wiC hw
  unfold q_lfsr
  refine am_blk (pc' := 10) (Ls' := [.val (.int (XT.ushr x0 (1 : Int32))), .val (.int (x0 &&& (1 : Int32)))]) (St' := [.int (1 : Int32), .int (x0 &&& (1 : Int32))]) (σ' := σ) [.iload_n 0, .iconst 1, .iand, .istore_n 1, .iload_n 0, .iconst 1, .iushr, .istore_n 0, .iload_n 1, .iconst 1] (by decide +kernel) hc hT hF wi (by exact rfl) ?_
  refine am_icmp_ne (o := 8) (pc1 := 18) (by decide +kernel) hc (fun hq => ?_) (fun hq => ?_)
  · refine am_blk (pc' := 19) (Ls' := [.val (.int ((XT.ushr x0 (1 : Int32)) ^^^ (46080 : Int32))), .val (.int (x0 &&& (1 : Int32)))]) (St' := [.int ((XT.ushr x0 (1 : Int32)) ^^^ (46080 : Int32))]) (σ' := σ) [.iload_n 0, .ldc 8, .ixor, .istore_n 0, .iload_n 0] (by decide +kernel) hc hT hF wi (by exact rfl) ?_
    exact am_retI (by decide +kernel) hc (by decide) (by decide) (fun h W O => ⟨rfl, W, O⟩)
  · refine am_blk (pc' := 19) (Ls' := [.val (.int (XT.ushr x0 (1 : Int32))), .val (.int (x0 &&& (1 : Int32)))]) (St' := [.int (XT.ushr x0 (1 : Int32))]) (σ' := σ) [.iload_n 0] (by decide +kernel) hc hT hF wi (by exact rfl) ?_
    exact am_retI (by decide +kernel) hc (by decide) (by decide) (fun h W O => ⟨rfl, W, O⟩)
abbrev rm_c_getGoldenSignature : Room := { frames := 0, cells := 0, slots := 0, locals := 0 }
def c_getGoldenSignature (σ : Sg) : Option (Int32 × Sg) :=
  some (gi σ 0 19, σ)
set_option maxRecDepth 65536 in
set_option maxHeartbeats 4000000 in
theorem ok_c_getGoldenSignature (hw : WH a0 Z) (σ : Sg) : ∀ x, c_getGoldenSignature σ = some x → Con l Z "LogicBist" fsC (⟨"LogicBist", "getGoldenSignature", "()I"⟩ : MethodName) prog_1_method_11_code 1 (some .int) rm_c_getGoldenSignature wC [.ref 0] σ (fI x).1 (fI x).2 := by
  refine am_con pnC ?_
  intro p e s m below meth c A n0 h0 hc
  have hT := tabC hw "getGoldenSignature"
  have hF := fsokC hw
  have wi := wiC hw
  unfold c_getGoldenSignature
  refine am_blk (pc' := 4) (Ls' := [.val (.ref 0)]) (St' := [.int (gi σ 0 19)]) (σ' := σ) [.aload_n 0, .getfield 112] (by decide +kernel) hc hT hF wi (by exact rfl) ?_
  exact am_retI (by decide +kernel) hc (by decide) (by decide) (fun h W O => ⟨rfl, W, O⟩)
abbrev rm_c_firstDetectOf : Room := { frames := 0, cells := 0, slots := 0, locals := 0 }
def c_firstDetectOf (x1 : Int32) (σ : Sg) : Option (Int32 × Sg) :=
  if x1 < 0 then (some ((-1 : Int32), σ)) else (if x1 < (80 : Int32) then (if inb x1 80 = true then (if (gi σ 8 (nx x1)) = 0 then (some ((-1 : Int32), σ)) else (some (gi σ 7 (nx x1), σ))) else none) else (some ((-1 : Int32), σ)))
set_option maxRecDepth 65536 in
set_option maxHeartbeats 4000000 in
theorem ok_c_firstDetectOf (hw : WH a0 Z) (x1 : Int32) (σ : Sg) : ∀ x, c_firstDetectOf x1 σ = some x → Con l Z "LogicBist" fsC (⟨"LogicBist", "firstDetectOf", "(I)I"⟩ : MethodName) prog_1_method_39_code 2 (some .int) rm_c_firstDetectOf wC [.ref 0, .int x1] σ (fI x).1 (fI x).2 := by
  refine am_con pnC ?_
  intro p e s m below meth c A n0 h0 hc
  have hT := tabC hw "firstDetectOf"
  have hF := fsokC hw
  have wi := wiC hw
  unfold c_firstDetectOf
  refine am_blk (pc' := 1) (Ls' := [.val (.ref 0), .val (.int x1)]) (St' := [.int x1]) (σ' := σ) [.iload_n 1] (by decide +kernel) hc hT hF wi (by exact rfl) ?_
  refine am_if_lt (o := 9) (pc1 := 10) (by decide +kernel) hc (fun hq => ?_) (fun hq => ?_)
  · refine am_blk (pc' := 11) (Ls' := [.val (.ref 0), .val (.int x1)]) (St' := [.int (-1 : Int32)]) (σ' := σ) [.iconst (-1)] (by decide +kernel) hc hT hF wi (by exact rfl) ?_
    exact am_retI (by decide +kernel) hc (by decide) (by decide) (fun h W O => ⟨rfl, W, O⟩)
  · refine am_blk (pc' := 7) (Ls' := [.val (.ref 0), .val (.int x1)]) (St' := [.int (80 : Int32), .int x1]) (σ' := σ) [.iload_n 1, .bipush 80] (by decide +kernel) hc hT hF wi (by exact rfl) ?_
    refine am_icmp_lt (o := 5) (pc1 := 12) (by decide +kernel) hc (fun hq => ?_) (fun hq => ?_)
    · refine am_blk (pc' := 17) (Ls' := [.val (.ref 0), .val (.int x1)]) (St' := [.int x1, .ref 8]) (σ' := σ) [.aload_n 0, .getfield 32, .iload_n 1] (by decide +kernel) hc hT hF wi (by exact rfl) ?_
      refine am_baloadZ (by decide +kernel) hc rfl (fun hb0 => ?_)
      refine am_if_ne (o := 5) (pc1 := 23) (by decide +kernel) hc (fun hq => ?_) (fun hq => ?_)
      · refine am_blk (pc' := 22) (Ls' := [.val (.ref 0), .val (.int x1)]) (St' := [.int (-1 : Int32)]) (σ' := σ) [.iconst (-1)] (by decide +kernel) hc hT hF wi (by exact rfl) ?_
        exact am_retI (by decide +kernel) hc (by decide) (by decide) (fun h W O => ⟨rfl, W, O⟩)
      · refine am_blk (pc' := 28) (Ls' := [.val (.ref 0), .val (.int x1)]) (St' := [.int x1, .ref 7]) (σ' := σ) [.aload_n 0, .getfield 29, .iload_n 1] (by decide +kernel) hc hT hF wi (by exact rfl) ?_
        refine am_iaload_k hb0 (by decide +kernel) hc rfl ?_
        exact am_retI (by decide +kernel) hc (by decide) (by decide) (fun h W O => ⟨rfl, W, O⟩)
    · refine am_blk (pc' := 11) (Ls' := [.val (.ref 0), .val (.int x1)]) (St' := [.int (-1 : Int32)]) (σ' := σ) [.iconst (-1)] (by decide +kernel) hc hT hF wi (by exact rfl) ?_
      exact am_retI (by decide +kernel) hc (by decide) (by decide) (fun h W O => ⟨rfl, W, O⟩)
abbrev rm_c_getFirstDetect : Room := { frames := 3, cells := 0, slots := 0, locals := 39 }
def c_getFirstDetect (x1 : Int32) (σ : Sg) : Option (Int32 × Sg) :=
  (c_isFault x1 σ).bind fun r1 => if r1.1 = 0 then (some ((-2 : Int32), r1.2)) else ((c_firstDetectOf x1 r1.2).bind fun r2 => some (r2.1, r2.2))
set_option maxRecDepth 65536 in
set_option maxHeartbeats 4000000 in
theorem ok_c_getFirstDetect (hw : WH a0 Z) (x1 : Int32) (σ : Sg) : ∀ x, c_getFirstDetect x1 σ = some x → Con l Z "LogicBist" fsC (⟨"LogicBist", "getFirstDetect", "(I)I"⟩ : MethodName) prog_1_method_13_code 2 (some .int) rm_c_getFirstDetect wC [.ref 0, .int x1] σ (fI x).1 (fI x).2 := by
  refine am_con pnC ?_
  intro p e s m below meth c A n0 h0 hc
  have hT := tabC hw "getFirstDetect"
  have hF := fsokC hw
  have wi := wiC hw
  unfold c_getFirstDetect
  refine am_blk (pc' := 2) (Ls' := [.val (.ref 0), .val (.int x1)]) (St' := [.int x1, .ref 0]) (σ' := σ) [.aload_n 0, .iload_n 1] (by decide +kernel) hc hT hF wi (by exact rfl) ?_
  refine am_callP_I (W0 := 0) (argsL := [.int x1]) (rest := []) rfl (lk_C_103 hw) rfl wi (by decide +kernel) hc (SubW.refl _) rfl (by show arity "(I)Z" 1 = true; decide +kernel) (ok_c_isFault hw x1 _) rfl ⟨by decide, by decide, Nat.le_of_eq rfl, rfl, rfl, by decide, by decide⟩ (fun r1 hr => ?_)
  refine am_if_ne (o := 6) (pc1 := 11) (by decide +kernel) hc (fun hq => ?_) (fun hq => ?_)
  · refine am_blk (pc' := 10) (Ls' := [.val (.ref 0), .val (.int x1)]) (St' := [.int (-2 : Int32)]) (σ' := r1.2) [.bipush (-2)] (by decide +kernel) hc hT hF wi (by exact rfl) ?_
    exact am_retI (by decide +kernel) hc (by decide) (by decide) (fun h W O => ⟨rfl, W, O⟩)
  · refine am_blk (pc' := 13) (Ls' := [.val (.ref 0), .val (.int x1)]) (St' := [.int x1, .ref 0]) (σ' := r1.2) [.aload_n 0, .iload_n 1] (by decide +kernel) hc hT hF wi (by exact rfl) ?_
    refine am_callP_I (W0 := 0) (argsL := [.int x1]) (rest := []) rfl (lk_C_115 hw) rfl wi (by decide +kernel) hc (SubW.refl _) rfl (by show arity "(I)I" 1 = true; decide +kernel) (ok_c_firstDetectOf hw x1 _) rfl ⟨by decide, by decide, Nat.le_of_eq rfl, rfl, rfl, by decide, by decide⟩ (fun r2 hr => ?_)
    exact am_retI (by decide +kernel) hc (by decide) (by decide) (fun h W O => ⟨rfl, W, O⟩)
abbrev rm_c_getFaultSignature : Room := { frames := 3, cells := 0, slots := 0, locals := 39 }
def c_getFaultSignature (x1 : Int32) (σ : Sg) : Option (Int32 × Sg) :=
  (c_isFault x1 σ).bind fun r1 => if r1.1 = 0 then (some ((-1 : Int32), r1.2)) else (if inb x1 80 = true then (some (gi r1.2 6 (nx x1), r1.2)) else none)
set_option maxRecDepth 65536 in
set_option maxHeartbeats 4000000 in
theorem ok_c_getFaultSignature (hw : WH a0 Z) (x1 : Int32) (σ : Sg) : ∀ x, c_getFaultSignature x1 σ = some x → Con l Z "LogicBist" fsC (⟨"LogicBist", "getFaultSignature", "(I)I"⟩ : MethodName) prog_1_method_12_code 2 (some .int) rm_c_getFaultSignature wC [.ref 0, .int x1] σ (fI x).1 (fI x).2 := by
  refine am_con pnC ?_
  intro p e s m below meth c A n0 h0 hc
  have hT := tabC hw "getFaultSignature"
  have hF := fsokC hw
  have wi := wiC hw
  unfold c_getFaultSignature
  refine am_blk (pc' := 2) (Ls' := [.val (.ref 0), .val (.int x1)]) (St' := [.int x1, .ref 0]) (σ' := σ) [.aload_n 0, .iload_n 1] (by decide +kernel) hc hT hF wi (by exact rfl) ?_
  refine am_callP_I (W0 := 0) (argsL := [.int x1]) (rest := []) rfl (lk_C_103 hw) rfl wi (by decide +kernel) hc (SubW.refl _) rfl (by show arity "(I)Z" 1 = true; decide +kernel) (ok_c_isFault hw x1 _) rfl ⟨by decide, by decide, Nat.le_of_eq rfl, rfl, rfl, by decide, by decide⟩ (fun r1 hr => ?_)
  refine am_if_ne (o := 5) (pc1 := 10) (by decide +kernel) hc (fun hq => ?_) (fun hq => ?_)
  · refine am_blk (pc' := 9) (Ls' := [.val (.ref 0), .val (.int x1)]) (St' := [.int (-1 : Int32)]) (σ' := r1.2) [.iconst (-1)] (by decide +kernel) hc hT hF wi (by exact rfl) ?_
    exact am_retI (by decide +kernel) hc (by decide) (by decide) (fun h W O => ⟨rfl, W, O⟩)
  · refine am_blk (pc' := 15) (Ls' := [.val (.ref 0), .val (.int x1)]) (St' := [.int x1, .ref 6]) (σ' := r1.2) [.aload_n 0, .getfield 26, .iload_n 1] (by decide +kernel) hc hT hF wi (by exact rfl) ?_
    refine am_iaload (by decide +kernel) hc rfl (fun hb0 => ?_)
    exact am_retI (by decide +kernel) hc (by decide) (by decide) (fun h W O => ⟨rfl, W, O⟩)
abbrev rm_c_isAliased : Room := { frames := 3, cells := 0, slots := 0, locals := 39 }
def c_isAliased (x1 : Int32) (σ : Sg) : Option (Int32 × Sg) :=
  (c_isFault x1 σ).bind fun r1 => if r1.1 = 0 then (some ((0 : Int32), r1.2)) else (if inb x1 80 = true then (if (gi r1.2 8 (nx x1)) = 0 then (some ((0 : Int32), r1.2)) else (if (gi r1.2 6 (nx x1)) = (gi r1.2 0 19) then (some ((1 : Int32), r1.2)) else (some ((0 : Int32), r1.2)))) else none)
set_option maxRecDepth 65536 in
set_option maxHeartbeats 4000000 in
theorem ok_c_isAliased (hw : WH a0 Z) (x1 : Int32) (σ : Sg) : ∀ x, c_isAliased x1 σ = some x → Con l Z "LogicBist" fsC (⟨"LogicBist", "isAliased", "(I)Z"⟩ : MethodName) prog_1_method_14_code 2 (some .boolean) rm_c_isAliased wC [.ref 0, .int x1] σ (fI x).1 (fI x).2 := by
  refine am_con pnC ?_
  intro p e s m below meth c A n0 h0 hc
  have hT := tabC hw "isAliased"
  have hF := fsokC hw
  have wi := wiC hw
  unfold c_isAliased
  refine am_blk (pc' := 2) (Ls' := [.val (.ref 0), .val (.int x1)]) (St' := [.int x1, .ref 0]) (σ' := σ) [.aload_n 0, .iload_n 1] (by decide +kernel) hc hT hF wi (by exact rfl) ?_
  refine am_callP_I (W0 := 0) (argsL := [.int x1]) (rest := []) rfl (lk_C_103 hw) rfl wi (by decide +kernel) hc (SubW.refl _) rfl (by show arity "(I)Z" 1 = true; decide +kernel) (ok_c_isFault hw x1 _) rfl ⟨by decide, by decide, Nat.le_of_eq rfl, rfl, rfl, by decide, by decide⟩ (fun r1 hr => ?_)
  refine am_if_ne (o := 5) (pc1 := 10) (by decide +kernel) hc (fun hq => ?_) (fun hq => ?_)
  · refine am_blk (pc' := 9) (Ls' := [.val (.ref 0), .val (.int x1)]) (St' := [.int (0 : Int32)]) (σ' := r1.2) [.iconst 0] (by decide +kernel) hc hT hF wi (by exact rfl) ?_
    exact am_retZ (by decide +kernel) hc (by decide) (by decide) (fun h W O => ⟨rfl, W, O⟩)
  · refine am_blk (pc' := 15) (Ls' := [.val (.ref 0), .val (.int x1)]) (St' := [.int x1, .ref 8]) (σ' := r1.2) [.aload_n 0, .getfield 32, .iload_n 1] (by decide +kernel) hc hT hF wi (by exact rfl) ?_
    refine am_baloadZ (by decide +kernel) hc rfl (fun hb0 => ?_)
    refine am_if_ne (o := 5) (pc1 := 21) (by decide +kernel) hc (fun hq => ?_) (fun hq => ?_)
    · refine am_blk (pc' := 20) (Ls' := [.val (.ref 0), .val (.int x1)]) (St' := [.int (0 : Int32)]) (σ' := r1.2) [.iconst 0] (by decide +kernel) hc hT hF wi (by exact rfl) ?_
      exact am_retZ (by decide +kernel) hc (by decide) (by decide) (fun h W O => ⟨rfl, W, O⟩)
    · refine am_blk (pc' := 26) (Ls' := [.val (.ref 0), .val (.int x1)]) (St' := [.int x1, .ref 6]) (σ' := r1.2) [.aload_n 0, .getfield 26, .iload_n 1] (by decide +kernel) hc hT hF wi (by exact rfl) ?_
      refine am_iaload_k hb0 (by decide +kernel) hc rfl ?_
      refine am_blk (pc' := 31) (Ls' := [.val (.ref 0), .val (.int x1)]) (St' := [.int (gi r1.2 0 19), .int (gi r1.2 6 (nx x1))]) (σ' := r1.2) [.aload_n 0, .getfield 112] (by decide +kernel) hc hT hF wi (by exact rfl) ?_
      refine am_icmp_ne (o := 7) (pc1 := 38) (by decide +kernel) hc (fun hq => ?_) (fun hq => ?_)
      · refine am_blk (pc' := 39) (Ls' := [.val (.ref 0), .val (.int x1)]) (St' := [.int (1 : Int32)]) (σ' := r1.2) [.iconst 1, .goto 4] (by decide +kernel) hc hT hF wi (by exact rfl) ?_
        exact am_retZ (by decide +kernel) hc (by decide) (by decide) (fun h W O => ⟨rfl, W, O⟩)
      · refine am_blk (pc' := 39) (Ls' := [.val (.ref 0), .val (.int x1)]) (St' := [.int (0 : Int32)]) (σ' := r1.2) [.iconst 0] (by decide +kernel) hc hT hF wi (by exact rfl) ?_
        exact am_retZ (by decide +kernel) hc (by decide) (by decide) (fun h W O => ⟨rfl, W, O⟩)
abbrev rm_c_coverageAt : Room := { frames := 2, cells := 0, slots := 0, locals := 25 }
def c_coverageAt_51 (k16 : Int32 → Int32 → Int32 → Int32 → Sg → Option (Int32 × Sg)) (x1 : Int32) (x2 : Int32) (x3 : Int32) (x4 : Int32) (σ : Sg) : Option (Int32 × Sg) :=
  k16 x1 x2 x3 (x4 + (1 : Int32)) σ
set_option maxRecDepth 65536 in
set_option maxHeartbeats 4000000 in
theorem okc_c_coverageAt_51 (hw : WH a0 Z) (hc : Cx p s m meth c Z "LogicBist" prog_1_method_16_code 6 (some .int) "coverageAt") (k16 : Int32 → Int32 → Int32 → Int32 → Sg → Option (Int32 × Sg)) (hk16 : ∀ (x1 : Int32) (x2 : Int32) (x3 : Int32) (x4 : Int32) (σ : Sg), OkR p l e rm_c_coverageAt s m args below meth c Z "LogicBist" fsC n0 h0 (FM Z "LogicBist" fsC A wC h0 fI) A wC 0 0 16 [.val (.ref 0), .val (.int x1), .val (.int x2), .val (.int x3), .val (.int x4), .unset] [] σ (k16 x1 x2 x3 x4 σ)) (x1 : Int32) (x2 : Int32) (x3 : Int32) (x4 : Int32) (σ : Sg) : OkR p l e rm_c_coverageAt s m args below meth c Z "LogicBist" fsC n0 h0 (FM Z "LogicBist" fsC A wC h0 fI) A wC 0 0 51 [.val (.ref 0), .val (.int x1), .val (.int x2), .val (.int x3), .val (.int x4), .unset] [] σ (c_coverageAt_51 k16 x1 x2 x3 x4 σ) := by
  have hT := tabC hw "coverageAt"
  have hF := fsokC hw
  have wi := wiC hw
  unfold c_coverageAt_51
  refine am_blk (pc' := 16) (Ls' := [.val (.ref 0), .val (.int x1), .val (.int x2), .val (.int x3), .val (.int (x4 + (1 : Int32))), .unset]) (St' := []) (σ' := σ) [.iinc 4 1, .goto (-38)] (by decide +kernel) hc hT hF wi (by exact rfl) ?_
  exact am_wk (Ls' := [.val (.ref 0), .val (.int x1), .val (.int x2), .val (.int x3), .val (.int (x4 + (1 : Int32))), .unset]) (by simp [wkL]) (hk16 x1 x2 x3 (x4 + (1 : Int32)) σ)
def c_coverageAt_16 : Nat → Int32 → Int32 → Int32 → Int32 → Sg → Option (Int32 × Sg)
  | 0, _, _, _, _, _ => none
  | fuel + 1, x1, x2, x3, x4, σ =>
    if x4 < x2 then (if x4 < (80 : Int32) then ((c_firstDetectOf x4 σ).bind fun r1 => if r1.1 < 0 then (c_coverageAt_51 (c_coverageAt_16 fuel) x1 x2 x3 x4 r1.2) else (if x1 < r1.1 then (c_coverageAt_51 (c_coverageAt_16 fuel) x1 x2 x3 x4 r1.2) else (c_coverageAt_51 (c_coverageAt_16 fuel) x1 x2 (x3 + (1 : Int32)) x4 r1.2))) else (some (x3, σ))) else (some (x3, σ))
set_option maxRecDepth 65536 in
set_option maxHeartbeats 4000000 in
theorem okc_c_coverageAt_16 (hw : WH a0 Z) (hc : Cx p s m meth c Z "LogicBist" prog_1_method_16_code 6 (some .int) "coverageAt") : ∀ (fuel : Nat) (x1 : Int32) (x2 : Int32) (x3 : Int32) (x4 : Int32) (σ : Sg), OkR p l e rm_c_coverageAt s m args below meth c Z "LogicBist" fsC n0 h0 (FM Z "LogicBist" fsC A wC h0 fI) A wC 0 0 16 [.val (.ref 0), .val (.int x1), .val (.int x2), .val (.int x3), .val (.int x4), .unset] [] σ (c_coverageAt_16 fuel x1 x2 x3 x4 σ) := by
  have hT := tabC hw "coverageAt"
  have hF := fsokC hw
  have wi := wiC hw
  intro fuel
  induction fuel with
  | zero => intro x1 x2 x3 x4 σ; exact am_none rfl
  | succ fuel ih =>
    intro x1 x2 x3 x4 σ
    rw [c_coverageAt_16]
    refine am_blk (pc' := 19) (Ls' := [.val (.ref 0), .val (.int x1), .val (.int x2), .val (.int x3), .val (.int x4), .unset]) (St' := [.int x2, .int x4]) (σ' := σ) [.iload 4, .iload_n 2] (by decide +kernel) hc hT hF wi (by exact rfl) ?_
    refine am_icmp_ge (o := 38) (pc1 := 57) (by decide +kernel) hc (fun hq => ?_) (fun hq => ?_)
    · refine am_blk (pc' := 26) (Ls' := [.val (.ref 0), .val (.int x1), .val (.int x2), .val (.int x3), .val (.int x4), .unset]) (St' := [.int (80 : Int32), .int x4]) (σ' := σ) [.iload 4, .bipush 80] (by decide +kernel) hc hT hF wi (by exact rfl) ?_
      refine am_icmp_ge (o := 31) (pc1 := 57) (by decide +kernel) hc (fun hq => ?_) (fun hq => ?_)
      · refine am_blk (pc' := 32) (Ls' := [.val (.ref 0), .val (.int x1), .val (.int x2), .val (.int x3), .val (.int x4), .unset]) (St' := [.int x4, .ref 0]) (σ' := σ) [.aload_n 0, .iload 4] (by decide +kernel) hc hT hF wi (by exact rfl) ?_
        refine am_callP_I (W0 := 0) (argsL := [.int x4]) (rest := []) rfl (lk_C_115 hw) rfl wi (by decide +kernel) hc (SubW.refl _) rfl (by show arity "(I)I" 1 = true; decide +kernel) (ok_c_firstDetectOf hw x4 _) rfl ⟨by decide, by decide, Nat.le_of_eq rfl, rfl, rfl, by decide, by decide⟩ (fun r1 hr => ?_)
        refine am_blk (pc' := 39) (Ls' := [.val (.ref 0), .val (.int x1), .val (.int x2), .val (.int x3), .val (.int x4), .val (.int r1.1)]) (St' := [.int r1.1]) (σ' := r1.2) [.istore 5, .iload 5] (by decide +kernel) hc hT hF wi (by exact rfl) ?_
        refine am_if_lt (o := 12) (pc1 := 51) (by decide +kernel) hc (fun hq => ?_) (fun hq => ?_)
        · exact am_wk (Ls' := [.val (.ref 0), .val (.int x1), .val (.int x2), .val (.int x3), .val (.int x4), .unset]) (by simp [wkL]) (okc_c_coverageAt_51 hw hc _ ih x1 x2 x3 x4 r1.2)
        · refine am_blk (pc' := 45) (Ls' := [.val (.ref 0), .val (.int x1), .val (.int x2), .val (.int x3), .val (.int x4), .val (.int r1.1)]) (St' := [.int x1, .int r1.1]) (σ' := r1.2) [.iload 5, .iload_n 1] (by decide +kernel) hc hT hF wi (by exact rfl) ?_
          refine am_icmp_gt (o := 6) (pc1 := 51) (by decide +kernel) hc (fun hq => ?_) (fun hq => ?_)
          · exact am_wk (Ls' := [.val (.ref 0), .val (.int x1), .val (.int x2), .val (.int x3), .val (.int x4), .unset]) (by simp [wkL]) (okc_c_coverageAt_51 hw hc _ ih x1 x2 x3 x4 r1.2)
          · refine am_blk (pc' := 51) (Ls' := [.val (.ref 0), .val (.int x1), .val (.int x2), .val (.int (x3 + (1 : Int32))), .val (.int x4), .val (.int r1.1)]) (St' := []) (σ' := r1.2) [.iinc 3 1] (by decide +kernel) hc hT hF wi (by exact rfl) ?_
            exact am_wk (Ls' := [.val (.ref 0), .val (.int x1), .val (.int x2), .val (.int (x3 + (1 : Int32))), .val (.int x4), .unset]) (by simp [wkL]) (okc_c_coverageAt_51 hw hc _ ih x1 x2 (x3 + (1 : Int32)) x4 r1.2)
      · refine am_blk (pc' := 58) (Ls' := [.val (.ref 0), .val (.int x1), .val (.int x2), .val (.int x3), .val (.int x4), .unset]) (St' := [.int x3]) (σ' := σ) [.iload_n 3] (by decide +kernel) hc hT hF wi (by exact rfl) ?_
        exact am_retI (by decide +kernel) hc (by decide) (by decide) (fun h W O => ⟨rfl, W, O⟩)
    · refine am_blk (pc' := 58) (Ls' := [.val (.ref 0), .val (.int x1), .val (.int x2), .val (.int x3), .val (.int x4), .unset]) (St' := [.int x3]) (σ' := σ) [.iload_n 3] (by decide +kernel) hc hT hF wi (by exact rfl) ?_
      exact am_retI (by decide +kernel) hc (by decide) (by decide) (fun h W O => ⟨rfl, W, O⟩)
def c_coverageAt (x1 : Int32) (σ : Sg) : Option (Int32 × Sg) :=
  if x1 < 0 then (some ((0 : Int32), σ)) else ((c_faultCount σ).bind fun r1 => c_coverageAt_16 400 x1 r1.1 (0 : Int32) (0 : Int32) r1.2)
set_option maxRecDepth 65536 in
set_option maxHeartbeats 4000000 in
theorem ok_c_coverageAt (hw : WH a0 Z) (x1 : Int32) (σ : Sg) : ∀ x, c_coverageAt x1 σ = some x → Con l Z "LogicBist" fsC (⟨"LogicBist", "coverageAt", "(I)I"⟩ : MethodName) prog_1_method_16_code 6 (some .int) rm_c_coverageAt wC [.ref 0, .int x1] σ (fI x).1 (fI x).2 := by
  refine am_con pnC ?_
  intro p e s m below meth c A n0 h0 hc
  have hT := tabC hw "coverageAt"
  have hF := fsokC hw
  have wi := wiC hw
  unfold c_coverageAt
  refine am_blk (pc' := 1) (Ls' := [.val (.ref 0), .val (.int x1), .unset, .unset, .unset, .unset]) (St' := [.int x1]) (σ' := σ) [.iload_n 1] (by decide +kernel) hc hT hF wi (by exact rfl) ?_
  refine am_if_ge (o := 5) (pc1 := 6) (by decide +kernel) hc (fun hq => ?_) (fun hq => ?_)
  · refine am_blk (pc' := 5) (Ls' := [.val (.ref 0), .val (.int x1), .unset, .unset, .unset, .unset]) (St' := [.int (0 : Int32)]) (σ' := σ) [.iconst 0] (by decide +kernel) hc hT hF wi (by exact rfl) ?_
    exact am_retI (by decide +kernel) hc (by decide) (by decide) (fun h W O => ⟨rfl, W, O⟩)
  · refine am_blk (pc' := 7) (Ls' := [.val (.ref 0), .val (.int x1), .unset, .unset, .unset, .unset]) (St' := [.ref 0]) (σ' := σ) [.aload_n 0] (by decide +kernel) hc hT hF wi (by exact rfl) ?_
    refine am_callP_I (W0 := 0) (argsL := []) (rest := []) rfl (lk_C_118 hw) rfl wi (by decide +kernel) hc (SubW.refl _) rfl (by show arity "()I" 0 = true; decide +kernel) (ok_c_faultCount hw _) rfl ⟨by decide, by decide, Nat.le_of_eq rfl, rfl, rfl, by decide, by decide⟩ (fun r1 hr => ?_)
    refine am_blk (pc' := 16) (Ls' := [.val (.ref 0), .val (.int x1), .val (.int r1.1), .val (.int (0 : Int32)), .val (.int (0 : Int32)), .unset]) (St' := []) (σ' := r1.2) [.istore_n 2, .iconst 0, .istore_n 3, .iconst 0, .istore 4] (by decide +kernel) hc hT hF wi (by exact rfl) ?_
    exact am_wk (Ls' := [.val (.ref 0), .val (.int x1), .val (.int r1.1), .val (.int (0 : Int32)), .val (.int (0 : Int32)), .unset]) (by simp [wkL]) (okc_c_coverageAt_16 hw hc 400 x1 r1.1 (0 : Int32) (0 : Int32) r1.2)
abbrev rm_q_check : Room := { frames := 4, cells := 0, slots := 0, locals := 68 }
def q_check_150 (k89 : Int32 → Int32 → Int32 → Int32 → Int32 → Int32 → Int32 → Sg → Option (Int32 × Sg)) (k108 : Int32 → Int32 → Int32 → Int32 → Int32 → Int32 → Int32 → Int32 → Int32 → Int32 → Int32 → Sg → Option (Int32 × Sg)) (x1 : Int32) (x2 : Int32) (x3 : Int32) (x5 : Int32) (x6 : Int32) (x8 : Int32) (x9 : Int32) (x10 : Int32) (x11 : Int32) (x12 : Int32) (x13 : Int32) (x14 : Int32) (σ : Sg) : Option (Int32 × Sg) :=
  (q_misr x11 x14 x2 x3 σ).bind fun r1 => (q_lfsr x8 r1.2).bind fun r2 => k108 x1 x2 x3 x5 x6 r2.1 x9 x10 r1.1 x12 (x13 + (1 : Int32)) r2.2
set_option maxRecDepth 65536 in
set_option maxHeartbeats 4000000 in
theorem okc_q_check_150 (hw : WH a0 Z) (hc : Cx p s m meth c Z "LogicBistOwnLaw" method_6_code 16 (some .boolean) "check") (k89 : Int32 → Int32 → Int32 → Int32 → Int32 → Int32 → Int32 → Sg → Option (Int32 × Sg)) (hk89 : ∀ (x1 : Int32) (x2 : Int32) (x3 : Int32) (x5 : Int32) (x6 : Int32) (x9 : Int32) (x10 : Int32) (σ : Sg), OkR p l e rm_q_check s m args below meth c Z "LogicBist" fsC n0 h0 (FM Z "LogicBist" fsC A wC h0 fI) A wC 0 0 89 [.val (.ref 0), .val (.int x1), .val (.int x2), .val (.int x3), .unset, .val (.int x5), .val (.int x6), .unset, .unset, .val (.int x9), .val (.int x10), .unset, .unset, .unset, .unset, .unset] [] σ (k89 x1 x2 x3 x5 x6 x9 x10 σ)) (k108 : Int32 → Int32 → Int32 → Int32 → Int32 → Int32 → Int32 → Int32 → Int32 → Int32 → Int32 → Sg → Option (Int32 × Sg)) (hk108 : ∀ (x1 : Int32) (x2 : Int32) (x3 : Int32) (x5 : Int32) (x6 : Int32) (x8 : Int32) (x9 : Int32) (x10 : Int32) (x11 : Int32) (x12 : Int32) (x13 : Int32) (σ : Sg), OkR p l e rm_q_check s m args below meth c Z "LogicBist" fsC n0 h0 (FM Z "LogicBist" fsC A wC h0 fI) A wC 0 0 108 [.val (.ref 0), .val (.int x1), .val (.int x2), .val (.int x3), .unset, .val (.int x5), .val (.int x6), .unset, .val (.int x8), .val (.int x9), .val (.int x10), .val (.int x11), .val (.int x12), .val (.int x13), .unset, .unset] [] σ (k108 x1 x2 x3 x5 x6 x8 x9 x10 x11 x12 x13 σ)) (x1 : Int32) (x2 : Int32) (x3 : Int32) (x5 : Int32) (x6 : Int32) (x8 : Int32) (x9 : Int32) (x10 : Int32) (x11 : Int32) (x12 : Int32) (x13 : Int32) (x14 : Int32) (σ : Sg) : OkR p l e rm_q_check s m args below meth c Z "LogicBist" fsC n0 h0 (FM Z "LogicBist" fsC A wC h0 fI) A wC 0 0 150 [.val (.ref 0), .val (.int x1), .val (.int x2), .val (.int x3), .unset, .val (.int x5), .val (.int x6), .unset, .val (.int x8), .val (.int x9), .val (.int x10), .val (.int x11), .val (.int x12), .val (.int x13), .val (.int x14), .unset] [] σ (q_check_150 k89 k108 x1 x2 x3 x5 x6 x8 x9 x10 x11 x12 x13 x14 σ) := by
  have hT := tabL hw "check"
  have hF := fsokC hw
  have wi := wiC hw
  unfold q_check_150
  refine am_blk (pc' := 156) (Ls' := [.val (.ref 0), .val (.int x1), .val (.int x2), .val (.int x3), .unset, .val (.int x5), .val (.int x6), .unset, .val (.int x8), .val (.int x9), .val (.int x10), .val (.int x11), .val (.int x12), .val (.int x13), .val (.int x14), .unset]) (St' := [.int x3, .int x2, .int x14, .int x11]) (σ' := σ) [.iload 11, .iload 14, .iload_n 2, .iload_n 3] (by decide +kernel) hc hT hF wi (by exact rfl) ?_
  refine am_callS_I (W0 := 0) (argsL := [.int x11, .int x14, .int x2, .int x3]) (rest := []) (lk_L_22 hw) (by decide +kernel) hc (SubW.refl _) rfl (by show arity "(IIII)I" 4 = true; decide +kernel) (ok_q_misr hw x11 x14 x2 x3 _) rfl ⟨by decide, by decide, Nat.le_of_eq rfl, rfl, rfl, by decide, by decide⟩ (fun r1 hr => ?_)
  refine am_blk (pc' := 163) (Ls' := [.val (.ref 0), .val (.int x1), .val (.int x2), .val (.int x3), .unset, .val (.int x5), .val (.int x6), .unset, .val (.int x8), .val (.int x9), .val (.int x10), .val (.int r1.1), .val (.int x12), .val (.int x13), .val (.int x14), .unset]) (St' := [.int x8]) (σ' := r1.2) [.istore 11, .iload 8] (by decide +kernel) hc hT hF wi (by exact rfl) ?_
  refine am_callS_I (W0 := 0) (argsL := [.int x8]) (rest := []) (lk_L_28 hw) (by decide +kernel) hc (SubW.refl _) rfl (by show arity "(I)I" 1 = true; decide +kernel) (ok_q_lfsr hw x8 _) rfl ⟨by decide, by decide, Nat.le_of_eq rfl, rfl, rfl, by decide, by decide⟩ (fun r2 hr => ?_)
  refine am_blk (pc' := 108) (Ls' := [.val (.ref 0), .val (.int x1), .val (.int x2), .val (.int x3), .unset, .val (.int x5), .val (.int x6), .unset, .val (.int r2.1), .val (.int x9), .val (.int x10), .val (.int r1.1), .val (.int x12), .val (.int (x13 + (1 : Int32))), .val (.int x14), .unset]) (St' := []) (σ' := r2.2) [.istore 8, .iinc 13 1, .goto (-63)] (by decide +kernel) hc hT hF wi (by exact rfl) ?_
  exact am_wk (Ls' := [.val (.ref 0), .val (.int x1), .val (.int x2), .val (.int x3), .unset, .val (.int x5), .val (.int x6), .unset, .val (.int r2.1), .val (.int x9), .val (.int x10), .val (.int r1.1), .val (.int x12), .val (.int (x13 + (1 : Int32))), .unset, .unset]) (by simp [wkL]) (hk108 x1 x2 x3 x5 x6 r2.1 x9 x10 r1.1 x12 (x13 + (1 : Int32)) r2.2)
def q_check_217 (k89 : Int32 → Int32 → Int32 → Int32 → Int32 → Int32 → Int32 → Sg → Option (Int32 × Sg)) (x1 : Int32) (x2 : Int32) (x3 : Int32) (x5 : Int32) (x6 : Int32) (x9 : Int32) (x10 : Int32) (s0 : Int32) (σ : Sg) : Option (Int32 × Sg) :=
  (c_isAliased x10 σ).bind fun r1 => if r1.1 = s0 then (k89 x1 x2 x3 x5 x6 x9 (x10 + (1 : Int32)) r1.2) else (some ((0 : Int32), r1.2))
set_option maxRecDepth 65536 in
set_option maxHeartbeats 4000000 in
theorem okc_q_check_217 (hw : WH a0 Z) (hc : Cx p s m meth c Z "LogicBistOwnLaw" method_6_code 16 (some .boolean) "check") (k89 : Int32 → Int32 → Int32 → Int32 → Int32 → Int32 → Int32 → Sg → Option (Int32 × Sg)) (hk89 : ∀ (x1 : Int32) (x2 : Int32) (x3 : Int32) (x5 : Int32) (x6 : Int32) (x9 : Int32) (x10 : Int32) (σ : Sg), OkR p l e rm_q_check s m args below meth c Z "LogicBist" fsC n0 h0 (FM Z "LogicBist" fsC A wC h0 fI) A wC 0 0 89 [.val (.ref 0), .val (.int x1), .val (.int x2), .val (.int x3), .unset, .val (.int x5), .val (.int x6), .unset, .unset, .val (.int x9), .val (.int x10), .unset, .unset, .unset, .unset, .unset] [] σ (k89 x1 x2 x3 x5 x6 x9 x10 σ)) (x1 : Int32) (x2 : Int32) (x3 : Int32) (x5 : Int32) (x6 : Int32) (x9 : Int32) (x10 : Int32) (s0 : Int32) (σ : Sg) : OkR p l e rm_q_check s m args below meth c Z "LogicBist" fsC n0 h0 (FM Z "LogicBist" fsC A wC h0 fI) A wC 0 0 217 [.val (.ref 0), .val (.int x1), .val (.int x2), .val (.int x3), .unset, .val (.int x5), .val (.int x6), .unset, .unset, .val (.int x9), .val (.int x10), .unset, .unset, .unset, .unset, .unset] [.int s0] σ (q_check_217 k89 x1 x2 x3 x5 x6 x9 x10 s0 σ) := by
  have hT := tabL hw "check"
  have hF := fsokC hw
  have wi := wiC hw
  unfold q_check_217
  refine am_blk (pc' := 222) (Ls' := [.val (.ref 0), .val (.int x1), .val (.int x2), .val (.int x3), .unset, .val (.int x5), .val (.int x6), .unset, .unset, .val (.int x9), .val (.int x10), .unset, .unset, .val (.int s0), .unset, .unset]) (St' := [.int x10, .ref 0]) (σ' := σ) [.istore 13, .aload_n 0, .iload 10] (by decide +kernel) hc hT hF wi (by exact rfl) ?_
  refine am_callV_I (W0 := 0) (argsL := [.int x10]) (rest := []) rfl (lk_L_41 hw) rfl (by decide +kernel) hc (SubW.refl _) rfl (by show arity "(I)Z" 1 = true; decide +kernel) (ok_c_isAliased hw x10 _) rfl ⟨by decide, by decide, Nat.le_of_eq rfl, rfl, rfl, by decide, by decide⟩ (fun r1 hr => ?_)
  refine am_blk (pc' := 227) (Ls' := [.val (.ref 0), .val (.int x1), .val (.int x2), .val (.int x3), .unset, .val (.int x5), .val (.int x6), .unset, .unset, .val (.int x9), .val (.int x10), .unset, .unset, .val (.int s0), .unset, .unset]) (St' := [.int s0, .int r1.1]) (σ' := r1.2) [.iload 13] (by decide +kernel) hc hT hF wi (by exact rfl) ?_
  refine am_icmp_eq (o := 5) (pc1 := 232) (by decide +kernel) hc (fun hq => ?_) (fun hq => ?_)
  · refine am_blk (pc' := 89) (Ls' := [.val (.ref 0), .val (.int x1), .val (.int x2), .val (.int x3), .unset, .val (.int x5), .val (.int x6), .unset, .unset, .val (.int x9), .val (.int (x10 + (1 : Int32))), .unset, .unset, .val (.int s0), .unset, .unset]) (St' := []) (σ' := r1.2) [.iinc 10 1, .goto (-146)] (by decide +kernel) hc hT hF wi (by exact rfl) ?_
    exact am_wk (Ls' := [.val (.ref 0), .val (.int x1), .val (.int x2), .val (.int x3), .unset, .val (.int x5), .val (.int x6), .unset, .unset, .val (.int x9), .val (.int (x10 + (1 : Int32))), .unset, .unset, .unset, .unset, .unset]) (by simp [wkL]) (hk89 x1 x2 x3 x5 x6 x9 (x10 + (1 : Int32)) r1.2)
  · refine am_blk (pc' := 231) (Ls' := [.val (.ref 0), .val (.int x1), .val (.int x2), .val (.int x3), .unset, .val (.int x5), .val (.int x6), .unset, .unset, .val (.int x9), .val (.int x10), .unset, .unset, .val (.int s0), .unset, .unset]) (St' := [.int (0 : Int32)]) (σ' := r1.2) [.iconst 0] (by decide +kernel) hc hT hF wi (by exact rfl) ?_
    exact am_retZ (by decide +kernel) hc (by decide) (by decide) (fun h W O => ⟨rfl, W, O⟩)
def q_check_216 (k89 : Int32 → Int32 → Int32 → Int32 → Int32 → Int32 → Int32 → Sg → Option (Int32 × Sg)) (x1 : Int32) (x2 : Int32) (x3 : Int32) (x5 : Int32) (x6 : Int32) (x9 : Int32) (x10 : Int32) (σ : Sg) : Option (Int32 × Sg) :=
  q_check_217 k89 x1 x2 x3 x5 x6 x9 x10 (0 : Int32) σ
set_option maxRecDepth 65536 in
set_option maxHeartbeats 4000000 in
theorem okc_q_check_216 (hw : WH a0 Z) (hc : Cx p s m meth c Z "LogicBistOwnLaw" method_6_code 16 (some .boolean) "check") (k89 : Int32 → Int32 → Int32 → Int32 → Int32 → Int32 → Int32 → Sg → Option (Int32 × Sg)) (hk89 : ∀ (x1 : Int32) (x2 : Int32) (x3 : Int32) (x5 : Int32) (x6 : Int32) (x9 : Int32) (x10 : Int32) (σ : Sg), OkR p l e rm_q_check s m args below meth c Z "LogicBist" fsC n0 h0 (FM Z "LogicBist" fsC A wC h0 fI) A wC 0 0 89 [.val (.ref 0), .val (.int x1), .val (.int x2), .val (.int x3), .unset, .val (.int x5), .val (.int x6), .unset, .unset, .val (.int x9), .val (.int x10), .unset, .unset, .unset, .unset, .unset] [] σ (k89 x1 x2 x3 x5 x6 x9 x10 σ)) (x1 : Int32) (x2 : Int32) (x3 : Int32) (x5 : Int32) (x6 : Int32) (x9 : Int32) (x10 : Int32) (σ : Sg) : OkR p l e rm_q_check s m args below meth c Z "LogicBist" fsC n0 h0 (FM Z "LogicBist" fsC A wC h0 fI) A wC 0 0 216 [.val (.ref 0), .val (.int x1), .val (.int x2), .val (.int x3), .unset, .val (.int x5), .val (.int x6), .unset, .unset, .val (.int x9), .val (.int x10), .unset, .unset, .unset, .unset, .unset] [] σ (q_check_216 k89 x1 x2 x3 x5 x6 x9 x10 σ) := by
  have hT := tabL hw "check"
  have hF := fsokC hw
  have wi := wiC hw
  unfold q_check_216
  refine am_blk (pc' := 217) (Ls' := [.val (.ref 0), .val (.int x1), .val (.int x2), .val (.int x3), .unset, .val (.int x5), .val (.int x6), .unset, .unset, .val (.int x9), .val (.int x10), .unset, .unset, .unset, .unset, .unset]) (St' := [.int (0 : Int32)]) (σ' := σ) [.iconst 0] (by decide +kernel) hc hT hF wi (by exact rfl) ?_
  exact am_wk (Ls' := [.val (.ref 0), .val (.int x1), .val (.int x2), .val (.int x3), .unset, .val (.int x5), .val (.int x6), .unset, .unset, .val (.int x9), .val (.int x10), .unset, .unset, .unset, .unset, .unset]) (by simp [wkL]) (okc_q_check_217 hw hc k89 hk89 x1 x2 x3 x5 x6 x9 x10 (0 : Int32) σ)
def q_check_108 (k89 : Int32 → Int32 → Int32 → Int32 → Int32 → Int32 → Int32 → Sg → Option (Int32 × Sg)) : Nat → Int32 → Int32 → Int32 → Int32 → Int32 → Int32 → Int32 → Int32 → Int32 → Int32 → Int32 → Sg → Option (Int32 × Sg)
  | 0, _, _, _, _, _, _, _, _, _, _, _, _ => none
  | fuel + 1, x1, x2, x3, x5, x6, x8, x9, x10, x11, x12, x13, σ =>
    if x13 < x6 then ((c_simulate x8 x10 σ).bind fun r1 => (c_simulate x8 (-1 : Int32) r1.2).bind fun r2 => if x12 < 0 then (if r1.1 = r2.1 then (q_check_150 k89 (q_check_108 k89 fuel) x1 x2 x3 x5 x6 x8 x9 x10 x11 x12 x13 r1.1 r2.2) else (q_check_150 k89 (q_check_108 k89 fuel) x1 x2 x3 x5 x6 x8 x9 x10 x11 x13 x13 r1.1 r2.2)) else (q_check_150 k89 (q_check_108 k89 fuel) x1 x2 x3 x5 x6 x8 x9 x10 x11 x12 x13 r1.1 r2.2)) else ((c_getFirstDetect x10 σ).bind fun r3 => if r3.1 = x12 then ((c_getFaultSignature x10 r3.2).bind fun r4 => if r4.1 = x11 then (if x12 < 0 then (q_check_216 k89 x1 x2 x3 x5 x6 x9 x10 r4.2) else (if x11 = x9 then (q_check_217 k89 x1 x2 x3 x5 x6 x9 x10 (1 : Int32) r4.2) else (q_check_216 k89 x1 x2 x3 x5 x6 x9 x10 r4.2))) else (some ((0 : Int32), r4.2))) else (some ((0 : Int32), r3.2)))
set_option maxRecDepth 65536 in
set_option maxHeartbeats 4000000 in
theorem okc_q_check_108 (hw : WH a0 Z) (hc : Cx p s m meth c Z "LogicBistOwnLaw" method_6_code 16 (some .boolean) "check") (k89 : Int32 → Int32 → Int32 → Int32 → Int32 → Int32 → Int32 → Sg → Option (Int32 × Sg)) (hk89 : ∀ (x1 : Int32) (x2 : Int32) (x3 : Int32) (x5 : Int32) (x6 : Int32) (x9 : Int32) (x10 : Int32) (σ : Sg), OkR p l e rm_q_check s m args below meth c Z "LogicBist" fsC n0 h0 (FM Z "LogicBist" fsC A wC h0 fI) A wC 0 0 89 [.val (.ref 0), .val (.int x1), .val (.int x2), .val (.int x3), .unset, .val (.int x5), .val (.int x6), .unset, .unset, .val (.int x9), .val (.int x10), .unset, .unset, .unset, .unset, .unset] [] σ (k89 x1 x2 x3 x5 x6 x9 x10 σ)) : ∀ (fuel : Nat) (x1 : Int32) (x2 : Int32) (x3 : Int32) (x5 : Int32) (x6 : Int32) (x8 : Int32) (x9 : Int32) (x10 : Int32) (x11 : Int32) (x12 : Int32) (x13 : Int32) (σ : Sg), OkR p l e rm_q_check s m args below meth c Z "LogicBist" fsC n0 h0 (FM Z "LogicBist" fsC A wC h0 fI) A wC 0 0 108 [.val (.ref 0), .val (.int x1), .val (.int x2), .val (.int x3), .unset, .val (.int x5), .val (.int x6), .unset, .val (.int x8), .val (.int x9), .val (.int x10), .val (.int x11), .val (.int x12), .val (.int x13), .unset, .unset] [] σ (q_check_108 k89 fuel x1 x2 x3 x5 x6 x8 x9 x10 x11 x12 x13 σ) := by
  have hT := tabL hw "check"
  have hF := fsokC hw
  have wi := wiC hw
  intro fuel
  induction fuel with
  | zero => intro x1 x2 x3 x5 x6 x8 x9 x10 x11 x12 x13 σ; exact am_none rfl
  | succ fuel ih =>
    intro x1 x2 x3 x5 x6 x8 x9 x10 x11 x12 x13 σ
    rw [q_check_108]
    refine am_blk (pc' := 112) (Ls' := [.val (.ref 0), .val (.int x1), .val (.int x2), .val (.int x3), .unset, .val (.int x5), .val (.int x6), .unset, .val (.int x8), .val (.int x9), .val (.int x10), .val (.int x11), .val (.int x12), .val (.int x13), .unset, .unset]) (St' := [.int x6, .int x13]) (σ' := σ) [.iload 13, .iload 6] (by decide +kernel) hc hT hF wi (by exact rfl) ?_
    refine am_icmp_ge (o := 62) (pc1 := 174) (by decide +kernel) hc (fun hq => ?_) (fun hq => ?_)
    · refine am_blk (pc' := 120) (Ls' := [.val (.ref 0), .val (.int x1), .val (.int x2), .val (.int x3), .unset, .val (.int x5), .val (.int x6), .unset, .val (.int x8), .val (.int x9), .val (.int x10), .val (.int x11), .val (.int x12), .val (.int x13), .unset, .unset]) (St' := [.int x10, .int x8, .ref 0]) (σ' := σ) [.aload_n 0, .iload 8, .iload 10] (by decide +kernel) hc hT hF wi (by exact rfl) ?_
      refine am_callV_I (W0 := 0) (argsL := [.int x8, .int x10]) (rest := []) rfl (lk_L_18 hw) rfl (by decide +kernel) hc (SubW.refl _) rfl (by show arity "(II)I" 2 = true; decide +kernel) (ok_c_simulate hw x8 x10 _) rfl ⟨by decide, by decide, Nat.le_of_eq rfl, rfl, rfl, by decide, by decide⟩ (fun r1 hr => ?_)
      refine am_blk (pc' := 129) (Ls' := [.val (.ref 0), .val (.int x1), .val (.int x2), .val (.int x3), .unset, .val (.int x5), .val (.int x6), .unset, .val (.int x8), .val (.int x9), .val (.int x10), .val (.int x11), .val (.int x12), .val (.int x13), .val (.int r1.1), .unset]) (St' := [.int (-1 : Int32), .int x8, .ref 0]) (σ' := r1.2) [.istore 14, .aload_n 0, .iload 8, .iconst (-1)] (by decide +kernel) hc hT hF wi (by exact rfl) ?_
      refine am_callV_I (W0 := 0) (argsL := [.int x8, .int (-1 : Int32)]) (rest := []) rfl (lk_L_18 hw) rfl (by decide +kernel) hc (SubW.refl _) rfl (by show arity "(II)I" 2 = true; decide +kernel) (ok_c_simulate hw x8 (-1 : Int32) _) rfl ⟨by decide, by decide, Nat.le_of_eq rfl, rfl, rfl, by decide, by decide⟩ (fun r2 hr => ?_)
      refine am_blk (pc' := 136) (Ls' := [.val (.ref 0), .val (.int x1), .val (.int x2), .val (.int x3), .unset, .val (.int x5), .val (.int x6), .unset, .val (.int x8), .val (.int x9), .val (.int x10), .val (.int x11), .val (.int x12), .val (.int x13), .val (.int r1.1), .val (.int r2.1)]) (St' := [.int x12]) (σ' := r2.2) [.istore 15, .iload 12] (by decide +kernel) hc hT hF wi (by exact rfl) ?_
      refine am_if_ge (o := 14) (pc1 := 150) (by decide +kernel) hc (fun hq => ?_) (fun hq => ?_)
      · refine am_blk (pc' := 143) (Ls' := [.val (.ref 0), .val (.int x1), .val (.int x2), .val (.int x3), .unset, .val (.int x5), .val (.int x6), .unset, .val (.int x8), .val (.int x9), .val (.int x10), .val (.int x11), .val (.int x12), .val (.int x13), .val (.int r1.1), .val (.int r2.1)]) (St' := [.int r2.1, .int r1.1]) (σ' := r2.2) [.iload 14, .iload 15] (by decide +kernel) hc hT hF wi (by exact rfl) ?_
        refine am_icmp_eq (o := 7) (pc1 := 150) (by decide +kernel) hc (fun hq => ?_) (fun hq => ?_)
        · exact am_wk (Ls' := [.val (.ref 0), .val (.int x1), .val (.int x2), .val (.int x3), .unset, .val (.int x5), .val (.int x6), .unset, .val (.int x8), .val (.int x9), .val (.int x10), .val (.int x11), .val (.int x12), .val (.int x13), .val (.int r1.1), .unset]) (by simp [wkL]) (okc_q_check_150 hw hc k89 hk89 _ ih x1 x2 x3 x5 x6 x8 x9 x10 x11 x12 x13 r1.1 r2.2)
        · refine am_blk (pc' := 150) (Ls' := [.val (.ref 0), .val (.int x1), .val (.int x2), .val (.int x3), .unset, .val (.int x5), .val (.int x6), .unset, .val (.int x8), .val (.int x9), .val (.int x10), .val (.int x11), .val (.int x13), .val (.int x13), .val (.int r1.1), .val (.int r2.1)]) (St' := []) (σ' := r2.2) [.iload 13, .istore 12] (by decide +kernel) hc hT hF wi (by exact rfl) ?_
          exact am_wk (Ls' := [.val (.ref 0), .val (.int x1), .val (.int x2), .val (.int x3), .unset, .val (.int x5), .val (.int x6), .unset, .val (.int x8), .val (.int x9), .val (.int x10), .val (.int x11), .val (.int x13), .val (.int x13), .val (.int r1.1), .unset]) (by simp [wkL]) (okc_q_check_150 hw hc k89 hk89 _ ih x1 x2 x3 x5 x6 x8 x9 x10 x11 x13 x13 r1.1 r2.2)
      · exact am_wk (Ls' := [.val (.ref 0), .val (.int x1), .val (.int x2), .val (.int x3), .unset, .val (.int x5), .val (.int x6), .unset, .val (.int x8), .val (.int x9), .val (.int x10), .val (.int x11), .val (.int x12), .val (.int x13), .val (.int r1.1), .unset]) (by simp [wkL]) (okc_q_check_150 hw hc k89 hk89 _ ih x1 x2 x3 x5 x6 x8 x9 x10 x11 x12 x13 r1.1 r2.2)
    · refine am_blk (pc' := 177) (Ls' := [.val (.ref 0), .val (.int x1), .val (.int x2), .val (.int x3), .unset, .val (.int x5), .val (.int x6), .unset, .val (.int x8), .val (.int x9), .val (.int x10), .val (.int x11), .val (.int x12), .val (.int x13), .unset, .unset]) (St' := [.int x10, .ref 0]) (σ' := σ) [.aload_n 0, .iload 10] (by decide +kernel) hc hT hF wi (by exact rfl) ?_
      refine am_callV_I (W0 := 0) (argsL := [.int x10]) (rest := []) rfl (lk_L_35 hw) rfl (by decide +kernel) hc (SubW.refl _) rfl (by show arity "(I)I" 1 = true; decide +kernel) (ok_c_getFirstDetect hw x10 _) rfl ⟨by decide, by decide, Nat.le_of_eq rfl, rfl, rfl, by decide, by decide⟩ (fun r3 hr => ?_)
      refine am_blk (pc' := 182) (Ls' := [.val (.ref 0), .val (.int x1), .val (.int x2), .val (.int x3), .unset, .val (.int x5), .val (.int x6), .unset, .val (.int x8), .val (.int x9), .val (.int x10), .val (.int x11), .val (.int x12), .val (.int x13), .unset, .unset]) (St' := [.int x12, .int r3.1]) (σ' := r3.2) [.iload 12] (by decide +kernel) hc hT hF wi (by exact rfl) ?_
      refine am_icmp_eq (o := 5) (pc1 := 187) (by decide +kernel) hc (fun hq => ?_) (fun hq => ?_)
      · refine am_blk (pc' := 190) (Ls' := [.val (.ref 0), .val (.int x1), .val (.int x2), .val (.int x3), .unset, .val (.int x5), .val (.int x6), .unset, .val (.int x8), .val (.int x9), .val (.int x10), .val (.int x11), .val (.int x12), .val (.int x13), .unset, .unset]) (St' := [.int x10, .ref 0]) (σ' := r3.2) [.aload_n 0, .iload 10] (by decide +kernel) hc hT hF wi (by exact rfl) ?_
        refine am_callV_I (W0 := 0) (argsL := [.int x10]) (rest := []) rfl (lk_L_38 hw) rfl (by decide +kernel) hc (SubW.refl _) rfl (by show arity "(I)I" 1 = true; decide +kernel) (ok_c_getFaultSignature hw x10 _) rfl ⟨by decide, by decide, Nat.le_of_eq rfl, rfl, rfl, by decide, by decide⟩ (fun r4 hr => ?_)
        refine am_blk (pc' := 195) (Ls' := [.val (.ref 0), .val (.int x1), .val (.int x2), .val (.int x3), .unset, .val (.int x5), .val (.int x6), .unset, .val (.int x8), .val (.int x9), .val (.int x10), .val (.int x11), .val (.int x12), .val (.int x13), .unset, .unset]) (St' := [.int x11, .int r4.1]) (σ' := r4.2) [.iload 11] (by decide +kernel) hc hT hF wi (by exact rfl) ?_
        refine am_icmp_eq (o := 5) (pc1 := 200) (by decide +kernel) hc (fun hq => ?_) (fun hq => ?_)
        · refine am_blk (pc' := 202) (Ls' := [.val (.ref 0), .val (.int x1), .val (.int x2), .val (.int x3), .unset, .val (.int x5), .val (.int x6), .unset, .val (.int x8), .val (.int x9), .val (.int x10), .val (.int x11), .val (.int x12), .val (.int x13), .unset, .unset]) (St' := [.int x12]) (σ' := r4.2) [.iload 12] (by decide +kernel) hc hT hF wi (by exact rfl) ?_
          refine am_if_lt (o := 14) (pc1 := 216) (by decide +kernel) hc (fun hq => ?_) (fun hq => ?_)
          · exact am_wk (Ls' := [.val (.ref 0), .val (.int x1), .val (.int x2), .val (.int x3), .unset, .val (.int x5), .val (.int x6), .unset, .unset, .val (.int x9), .val (.int x10), .unset, .unset, .unset, .unset, .unset]) (by simp [wkL]) (okc_q_check_216 hw hc k89 hk89 x1 x2 x3 x5 x6 x9 x10 r4.2)
          · refine am_blk (pc' := 209) (Ls' := [.val (.ref 0), .val (.int x1), .val (.int x2), .val (.int x3), .unset, .val (.int x5), .val (.int x6), .unset, .val (.int x8), .val (.int x9), .val (.int x10), .val (.int x11), .val (.int x12), .val (.int x13), .unset, .unset]) (St' := [.int x9, .int x11]) (σ' := r4.2) [.iload 11, .iload 9] (by decide +kernel) hc hT hF wi (by exact rfl) ?_
            refine am_icmp_ne (o := 7) (pc1 := 216) (by decide +kernel) hc (fun hq => ?_) (fun hq => ?_)
            · refine am_blk (pc' := 217) (Ls' := [.val (.ref 0), .val (.int x1), .val (.int x2), .val (.int x3), .unset, .val (.int x5), .val (.int x6), .unset, .val (.int x8), .val (.int x9), .val (.int x10), .val (.int x11), .val (.int x12), .val (.int x13), .unset, .unset]) (St' := [.int (1 : Int32)]) (σ' := r4.2) [.iconst 1, .goto 4] (by decide +kernel) hc hT hF wi (by exact rfl) ?_
              exact am_wk (Ls' := [.val (.ref 0), .val (.int x1), .val (.int x2), .val (.int x3), .unset, .val (.int x5), .val (.int x6), .unset, .unset, .val (.int x9), .val (.int x10), .unset, .unset, .unset, .unset, .unset]) (by simp [wkL]) (okc_q_check_217 hw hc k89 hk89 x1 x2 x3 x5 x6 x9 x10 (1 : Int32) r4.2)
            · exact am_wk (Ls' := [.val (.ref 0), .val (.int x1), .val (.int x2), .val (.int x3), .unset, .val (.int x5), .val (.int x6), .unset, .unset, .val (.int x9), .val (.int x10), .unset, .unset, .unset, .unset, .unset]) (by simp [wkL]) (okc_q_check_216 hw hc k89 hk89 x1 x2 x3 x5 x6 x9 x10 r4.2)
        · refine am_blk (pc' := 199) (Ls' := [.val (.ref 0), .val (.int x1), .val (.int x2), .val (.int x3), .unset, .val (.int x5), .val (.int x6), .unset, .val (.int x8), .val (.int x9), .val (.int x10), .val (.int x11), .val (.int x12), .val (.int x13), .unset, .unset]) (St' := [.int (0 : Int32)]) (σ' := r4.2) [.iconst 0] (by decide +kernel) hc hT hF wi (by exact rfl) ?_
          exact am_retZ (by decide +kernel) hc (by decide) (by decide) (fun h W O => ⟨rfl, W, O⟩)
      · refine am_blk (pc' := 186) (Ls' := [.val (.ref 0), .val (.int x1), .val (.int x2), .val (.int x3), .unset, .val (.int x5), .val (.int x6), .unset, .val (.int x8), .val (.int x9), .val (.int x10), .val (.int x11), .val (.int x12), .val (.int x13), .unset, .unset]) (St' := [.int (0 : Int32)]) (σ' := r3.2) [.iconst 0] (by decide +kernel) hc hT hF wi (by exact rfl) ?_
        exact am_retZ (by decide +kernel) hc (by decide) (by decide) (fun h W O => ⟨rfl, W, O⟩)
def q_check_284 (k241 : Int32 → Int32 → Int32 → Sg → Option (Int32 × Sg)) (k254 : Int32 → Int32 → Int32 → Int32 → Int32 → Sg → Option (Int32 × Sg)) (x5 : Int32) (x6 : Int32) (x10 : Int32) (x11 : Int32) (x12 : Int32) (σ : Sg) : Option (Int32 × Sg) :=
  k254 x5 x6 x10 x11 (x12 + (1 : Int32)) σ
set_option maxRecDepth 65536 in
set_option maxHeartbeats 4000000 in
theorem okc_q_check_284 (hw : WH a0 Z) (hc : Cx p s m meth c Z "LogicBistOwnLaw" method_6_code 16 (some .boolean) "check") (k241 : Int32 → Int32 → Int32 → Sg → Option (Int32 × Sg)) (hk241 : ∀ (x5 : Int32) (x6 : Int32) (x10 : Int32) (σ : Sg), OkR p l e rm_q_check s m args below meth c Z "LogicBist" fsC n0 h0 (FM Z "LogicBist" fsC A wC h0 fI) A wC 0 0 241 [.val (.ref 0), .unset, .unset, .unset, .unset, .val (.int x5), .val (.int x6), .unset, .unset, .unset, .val (.int x10), .unset, .unset, .unset, .unset, .unset] [] σ (k241 x5 x6 x10 σ)) (k254 : Int32 → Int32 → Int32 → Int32 → Int32 → Sg → Option (Int32 × Sg)) (hk254 : ∀ (x5 : Int32) (x6 : Int32) (x10 : Int32) (x11 : Int32) (x12 : Int32) (σ : Sg), OkR p l e rm_q_check s m args below meth c Z "LogicBist" fsC n0 h0 (FM Z "LogicBist" fsC A wC h0 fI) A wC 0 0 254 [.val (.ref 0), .unset, .unset, .unset, .unset, .val (.int x5), .val (.int x6), .unset, .unset, .unset, .val (.int x10), .val (.int x11), .val (.int x12), .unset, .unset, .unset] [] σ (k254 x5 x6 x10 x11 x12 σ)) (x5 : Int32) (x6 : Int32) (x10 : Int32) (x11 : Int32) (x12 : Int32) (σ : Sg) : OkR p l e rm_q_check s m args below meth c Z "LogicBist" fsC n0 h0 (FM Z "LogicBist" fsC A wC h0 fI) A wC 0 0 284 [.val (.ref 0), .unset, .unset, .unset, .unset, .val (.int x5), .val (.int x6), .unset, .unset, .unset, .val (.int x10), .val (.int x11), .val (.int x12), .unset, .unset, .unset] [] σ (q_check_284 k241 k254 x5 x6 x10 x11 x12 σ) := by
  have hT := tabL hw "check"
  have hF := fsokC hw
  have wi := wiC hw
  unfold q_check_284
  refine am_blk (pc' := 254) (Ls' := [.val (.ref 0), .unset, .unset, .unset, .unset, .val (.int x5), .val (.int x6), .unset, .unset, .unset, .val (.int x10), .val (.int x11), .val (.int (x12 + (1 : Int32))), .unset, .unset, .unset]) (St' := []) (σ' := σ) [.iinc 12 1, .goto (-33)] (by decide +kernel) hc hT hF wi (by exact rfl) ?_
  exact am_wk (Ls' := [.val (.ref 0), .unset, .unset, .unset, .unset, .val (.int x5), .val (.int x6), .unset, .unset, .unset, .val (.int x10), .val (.int x11), .val (.int (x12 + (1 : Int32))), .unset, .unset, .unset]) (by simp [wkL]) (hk254 x5 x6 x10 x11 (x12 + (1 : Int32)) σ)
def q_check_254 (k241 : Int32 → Int32 → Int32 → Sg → Option (Int32 × Sg)) : Nat → Int32 → Int32 → Int32 → Int32 → Int32 → Sg → Option (Int32 × Sg)
  | 0, _, _, _, _, _, _ => none
  | fuel + 1, x5, x6, x10, x11, x12, σ =>
    if x12 < x5 then ((c_getFirstDetect x12 σ).bind fun r1 => if r1.1 < 0 then (q_check_284 k241 (q_check_254 k241 fuel) x5 x6 x10 x11 x12 r1.2) else (if x10 < r1.1 then (q_check_284 k241 (q_check_254 k241 fuel) x5 x6 x10 x11 x12 r1.2) else (q_check_284 k241 (q_check_254 k241 fuel) x5 x6 x10 (x11 + (1 : Int32)) x12 r1.2))) else ((c_coverageAt x10 σ).bind fun r2 => if r2.1 = x11 then (k241 x5 x6 (x10 + (1 : Int32)) r2.2) else (some ((0 : Int32), r2.2)))
set_option maxRecDepth 65536 in
set_option maxHeartbeats 4000000 in
theorem okc_q_check_254 (hw : WH a0 Z) (hc : Cx p s m meth c Z "LogicBistOwnLaw" method_6_code 16 (some .boolean) "check") (k241 : Int32 → Int32 → Int32 → Sg → Option (Int32 × Sg)) (hk241 : ∀ (x5 : Int32) (x6 : Int32) (x10 : Int32) (σ : Sg), OkR p l e rm_q_check s m args below meth c Z "LogicBist" fsC n0 h0 (FM Z "LogicBist" fsC A wC h0 fI) A wC 0 0 241 [.val (.ref 0), .unset, .unset, .unset, .unset, .val (.int x5), .val (.int x6), .unset, .unset, .unset, .val (.int x10), .unset, .unset, .unset, .unset, .unset] [] σ (k241 x5 x6 x10 σ)) : ∀ (fuel : Nat) (x5 : Int32) (x6 : Int32) (x10 : Int32) (x11 : Int32) (x12 : Int32) (σ : Sg), OkR p l e rm_q_check s m args below meth c Z "LogicBist" fsC n0 h0 (FM Z "LogicBist" fsC A wC h0 fI) A wC 0 0 254 [.val (.ref 0), .unset, .unset, .unset, .unset, .val (.int x5), .val (.int x6), .unset, .unset, .unset, .val (.int x10), .val (.int x11), .val (.int x12), .unset, .unset, .unset] [] σ (q_check_254 k241 fuel x5 x6 x10 x11 x12 σ) := by
  have hT := tabL hw "check"
  have hF := fsokC hw
  have wi := wiC hw
  intro fuel
  induction fuel with
  | zero => intro x5 x6 x10 x11 x12 σ; exact am_none rfl
  | succ fuel ih =>
    intro x5 x6 x10 x11 x12 σ
    rw [q_check_254]
    refine am_blk (pc' := 258) (Ls' := [.val (.ref 0), .unset, .unset, .unset, .unset, .val (.int x5), .val (.int x6), .unset, .unset, .unset, .val (.int x10), .val (.int x11), .val (.int x12), .unset, .unset, .unset]) (St' := [.int x5, .int x12]) (σ' := σ) [.iload 12, .iload 5] (by decide +kernel) hc hT hF wi (by exact rfl) ?_
    refine am_icmp_ge (o := 32) (pc1 := 290) (by decide +kernel) hc (fun hq => ?_) (fun hq => ?_)
    · refine am_blk (pc' := 264) (Ls' := [.val (.ref 0), .unset, .unset, .unset, .unset, .val (.int x5), .val (.int x6), .unset, .unset, .unset, .val (.int x10), .val (.int x11), .val (.int x12), .unset, .unset, .unset]) (St' := [.int x12, .ref 0]) (σ' := σ) [.aload_n 0, .iload 12] (by decide +kernel) hc hT hF wi (by exact rfl) ?_
      refine am_callV_I (W0 := 0) (argsL := [.int x12]) (rest := []) rfl (lk_L_35 hw) rfl (by decide +kernel) hc (SubW.refl _) rfl (by show arity "(I)I" 1 = true; decide +kernel) (ok_c_getFirstDetect hw x12 _) rfl ⟨by decide, by decide, Nat.le_of_eq rfl, rfl, rfl, by decide, by decide⟩ (fun r1 hr => ?_)
      refine am_blk (pc' := 271) (Ls' := [.val (.ref 0), .unset, .unset, .unset, .unset, .val (.int x5), .val (.int x6), .unset, .unset, .unset, .val (.int x10), .val (.int x11), .val (.int x12), .val (.int r1.1), .unset, .unset]) (St' := [.int r1.1]) (σ' := r1.2) [.istore 13, .iload 13] (by decide +kernel) hc hT hF wi (by exact rfl) ?_
      refine am_if_lt (o := 13) (pc1 := 284) (by decide +kernel) hc (fun hq => ?_) (fun hq => ?_)
      · exact am_wk (Ls' := [.val (.ref 0), .unset, .unset, .unset, .unset, .val (.int x5), .val (.int x6), .unset, .unset, .unset, .val (.int x10), .val (.int x11), .val (.int x12), .unset, .unset, .unset]) (by simp [wkL]) (okc_q_check_284 hw hc k241 hk241 _ ih x5 x6 x10 x11 x12 r1.2)
      · refine am_blk (pc' := 278) (Ls' := [.val (.ref 0), .unset, .unset, .unset, .unset, .val (.int x5), .val (.int x6), .unset, .unset, .unset, .val (.int x10), .val (.int x11), .val (.int x12), .val (.int r1.1), .unset, .unset]) (St' := [.int x10, .int r1.1]) (σ' := r1.2) [.iload 13, .iload 10] (by decide +kernel) hc hT hF wi (by exact rfl) ?_
        refine am_icmp_gt (o := 6) (pc1 := 284) (by decide +kernel) hc (fun hq => ?_) (fun hq => ?_)
        · exact am_wk (Ls' := [.val (.ref 0), .unset, .unset, .unset, .unset, .val (.int x5), .val (.int x6), .unset, .unset, .unset, .val (.int x10), .val (.int x11), .val (.int x12), .unset, .unset, .unset]) (by simp [wkL]) (okc_q_check_284 hw hc k241 hk241 _ ih x5 x6 x10 x11 x12 r1.2)
        · refine am_blk (pc' := 284) (Ls' := [.val (.ref 0), .unset, .unset, .unset, .unset, .val (.int x5), .val (.int x6), .unset, .unset, .unset, .val (.int x10), .val (.int (x11 + (1 : Int32))), .val (.int x12), .val (.int r1.1), .unset, .unset]) (St' := []) (σ' := r1.2) [.iinc 11 1] (by decide +kernel) hc hT hF wi (by exact rfl) ?_
          exact am_wk (Ls' := [.val (.ref 0), .unset, .unset, .unset, .unset, .val (.int x5), .val (.int x6), .unset, .unset, .unset, .val (.int x10), .val (.int (x11 + (1 : Int32))), .val (.int x12), .unset, .unset, .unset]) (by simp [wkL]) (okc_q_check_284 hw hc k241 hk241 _ ih x5 x6 x10 (x11 + (1 : Int32)) x12 r1.2)
    · refine am_blk (pc' := 293) (Ls' := [.val (.ref 0), .unset, .unset, .unset, .unset, .val (.int x5), .val (.int x6), .unset, .unset, .unset, .val (.int x10), .val (.int x11), .val (.int x12), .unset, .unset, .unset]) (St' := [.int x10, .ref 0]) (σ' := σ) [.aload_n 0, .iload 10] (by decide +kernel) hc hT hF wi (by exact rfl) ?_
      refine am_callV_I (W0 := 0) (argsL := [.int x10]) (rest := []) rfl (lk_L_45 hw) rfl (by decide +kernel) hc (SubW.refl _) rfl (by show arity "(I)I" 1 = true; decide +kernel) (ok_c_coverageAt hw x10 _) rfl ⟨by decide, by decide, Nat.le_of_eq rfl, rfl, rfl, by decide, by decide⟩ (fun r2 hr => ?_)
      refine am_blk (pc' := 298) (Ls' := [.val (.ref 0), .unset, .unset, .unset, .unset, .val (.int x5), .val (.int x6), .unset, .unset, .unset, .val (.int x10), .val (.int x11), .val (.int x12), .unset, .unset, .unset]) (St' := [.int x11, .int r2.1]) (σ' := r2.2) [.iload 11] (by decide +kernel) hc hT hF wi (by exact rfl) ?_
      refine am_icmp_eq (o := 5) (pc1 := 303) (by decide +kernel) hc (fun hq => ?_) (fun hq => ?_)
      · refine am_blk (pc' := 241) (Ls' := [.val (.ref 0), .unset, .unset, .unset, .unset, .val (.int x5), .val (.int x6), .unset, .unset, .unset, .val (.int (x10 + (1 : Int32))), .val (.int x11), .val (.int x12), .unset, .unset, .unset]) (St' := []) (σ' := r2.2) [.iinc 10 1, .goto (-65)] (by decide +kernel) hc hT hF wi (by exact rfl) ?_
        exact am_wk (Ls' := [.val (.ref 0), .unset, .unset, .unset, .unset, .val (.int x5), .val (.int x6), .unset, .unset, .unset, .val (.int (x10 + (1 : Int32))), .unset, .unset, .unset, .unset, .unset]) (by simp [wkL]) (hk241 x5 x6 (x10 + (1 : Int32)) r2.2)
      · refine am_blk (pc' := 302) (Ls' := [.val (.ref 0), .unset, .unset, .unset, .unset, .val (.int x5), .val (.int x6), .unset, .unset, .unset, .val (.int x10), .val (.int x11), .val (.int x12), .unset, .unset, .unset]) (St' := [.int (0 : Int32)]) (σ' := r2.2) [.iconst 0] (by decide +kernel) hc hT hF wi (by exact rfl) ?_
        exact am_retZ (by decide +kernel) hc (by decide) (by decide) (fun h W O => ⟨rfl, W, O⟩)
def q_check_241 : Nat → Int32 → Int32 → Int32 → Sg → Option (Int32 × Sg)
  | 0, _, _, _, _ => none
  | fuel + 1, x5, x6, x10, σ =>
    if x6 < x10 then (some ((1 : Int32), σ)) else (q_check_254 (q_check_241 fuel) 400 x5 x6 x10 (0 : Int32) (0 : Int32) σ)
set_option maxRecDepth 65536 in
set_option maxHeartbeats 4000000 in
theorem okc_q_check_241 (hw : WH a0 Z) (hc : Cx p s m meth c Z "LogicBistOwnLaw" method_6_code 16 (some .boolean) "check") : ∀ (fuel : Nat) (x5 : Int32) (x6 : Int32) (x10 : Int32) (σ : Sg), OkR p l e rm_q_check s m args below meth c Z "LogicBist" fsC n0 h0 (FM Z "LogicBist" fsC A wC h0 fI) A wC 0 0 241 [.val (.ref 0), .unset, .unset, .unset, .unset, .val (.int x5), .val (.int x6), .unset, .unset, .unset, .val (.int x10), .unset, .unset, .unset, .unset, .unset] [] σ (q_check_241 fuel x5 x6 x10 σ) := by
  have hT := tabL hw "check"
  have hF := fsokC hw
  have wi := wiC hw
  intro fuel
  induction fuel with
  | zero => intro x5 x6 x10 σ; exact am_none rfl
  | succ fuel ih =>
    intro x5 x6 x10 σ
    rw [q_check_241]
    refine am_blk (pc' := 245) (Ls' := [.val (.ref 0), .unset, .unset, .unset, .unset, .val (.int x5), .val (.int x6), .unset, .unset, .unset, .val (.int x10), .unset, .unset, .unset, .unset, .unset]) (St' := [.int x6, .int x10]) (σ' := σ) [.iload 10, .iload 6] (by decide +kernel) hc hT hF wi (by exact rfl) ?_
    refine am_icmp_gt (o := 64) (pc1 := 309) (by decide +kernel) hc (fun hq => ?_) (fun hq => ?_)
    · refine am_blk (pc' := 310) (Ls' := [.val (.ref 0), .unset, .unset, .unset, .unset, .val (.int x5), .val (.int x6), .unset, .unset, .unset, .val (.int x10), .unset, .unset, .unset, .unset, .unset]) (St' := [.int (1 : Int32)]) (σ' := σ) [.iconst 1] (by decide +kernel) hc hT hF wi (by exact rfl) ?_
      exact am_retZ (by decide +kernel) hc (by decide) (by decide) (fun h W O => ⟨rfl, W, O⟩)
    · refine am_blk (pc' := 254) (Ls' := [.val (.ref 0), .unset, .unset, .unset, .unset, .val (.int x5), .val (.int x6), .unset, .unset, .unset, .val (.int x10), .val (.int (0 : Int32)), .val (.int (0 : Int32)), .unset, .unset, .unset]) (St' := []) (σ' := σ) [.iconst 0, .istore 11, .iconst 0, .istore 12] (by decide +kernel) hc hT hF wi (by exact rfl) ?_
      exact am_wk (Ls' := [.val (.ref 0), .unset, .unset, .unset, .unset, .val (.int x5), .val (.int x6), .unset, .unset, .unset, .val (.int x10), .val (.int (0 : Int32)), .val (.int (0 : Int32)), .unset, .unset, .unset]) (by simp [wkL]) (okc_q_check_254 hw hc _ ih 400 x5 x6 x10 (0 : Int32) (0 : Int32) σ)
def q_check_89 : Nat → Int32 → Int32 → Int32 → Int32 → Int32 → Int32 → Int32 → Sg → Option (Int32 × Sg)
  | 0, _, _, _, _, _, _, _, _ => none
  | fuel + 1, x1, x2, x3, x5, x6, x9, x10, σ =>
    if x10 < x5 then (q_check_108 (q_check_89 fuel) 400 x1 x2 x3 x5 x6 x1 x9 x10 (0 : Int32) (-1 : Int32) (0 : Int32) σ) else (q_check_241 400 x5 x6 (-1 : Int32) σ)
set_option maxRecDepth 65536 in
set_option maxHeartbeats 4000000 in
theorem okc_q_check_89 (hw : WH a0 Z) (hc : Cx p s m meth c Z "LogicBistOwnLaw" method_6_code 16 (some .boolean) "check") : ∀ (fuel : Nat) (x1 : Int32) (x2 : Int32) (x3 : Int32) (x5 : Int32) (x6 : Int32) (x9 : Int32) (x10 : Int32) (σ : Sg), OkR p l e rm_q_check s m args below meth c Z "LogicBist" fsC n0 h0 (FM Z "LogicBist" fsC A wC h0 fI) A wC 0 0 89 [.val (.ref 0), .val (.int x1), .val (.int x2), .val (.int x3), .unset, .val (.int x5), .val (.int x6), .unset, .unset, .val (.int x9), .val (.int x10), .unset, .unset, .unset, .unset, .unset] [] σ (q_check_89 fuel x1 x2 x3 x5 x6 x9 x10 σ) := by
  have hT := tabL hw "check"
  have hF := fsokC hw
  have wi := wiC hw
  intro fuel
  induction fuel with
  | zero => intro x1 x2 x3 x5 x6 x9 x10 σ; exact am_none rfl
  | succ fuel ih =>
    intro x1 x2 x3 x5 x6 x9 x10 σ
    rw [q_check_89]
    refine am_blk (pc' := 93) (Ls' := [.val (.ref 0), .val (.int x1), .val (.int x2), .val (.int x3), .unset, .val (.int x5), .val (.int x6), .unset, .unset, .val (.int x9), .val (.int x10), .unset, .unset, .unset, .unset, .unset]) (St' := [.int x5, .int x10]) (σ' := σ) [.iload 10, .iload 5] (by decide +kernel) hc hT hF wi (by exact rfl) ?_
    refine am_icmp_ge (o := 145) (pc1 := 238) (by decide +kernel) hc (fun hq => ?_) (fun hq => ?_)
    · refine am_blk (pc' := 108) (Ls' := [.val (.ref 0), .val (.int x1), .val (.int x2), .val (.int x3), .unset, .val (.int x5), .val (.int x6), .unset, .val (.int x1), .val (.int x9), .val (.int x10), .val (.int (0 : Int32)), .val (.int (-1 : Int32)), .val (.int (0 : Int32)), .unset, .unset]) (St' := []) (σ' := σ) [.iconst 0, .istore 11, .iload_n 1, .istore 8, .iconst (-1), .istore 12, .iconst 0, .istore 13] (by decide +kernel) hc hT hF wi (by exact rfl) ?_
      exact am_wk (Ls' := [.val (.ref 0), .val (.int x1), .val (.int x2), .val (.int x3), .unset, .val (.int x5), .val (.int x6), .unset, .val (.int x1), .val (.int x9), .val (.int x10), .val (.int (0 : Int32)), .val (.int (-1 : Int32)), .val (.int (0 : Int32)), .unset, .unset]) (by simp [wkL]) (okc_q_check_108 hw hc _ ih 400 x1 x2 x3 x5 x6 x1 x9 x10 (0 : Int32) (-1 : Int32) (0 : Int32) σ)
    · refine am_blk (pc' := 241) (Ls' := [.val (.ref 0), .val (.int x1), .val (.int x2), .val (.int x3), .unset, .val (.int x5), .val (.int x6), .unset, .unset, .val (.int x9), .val (.int (-1 : Int32)), .unset, .unset, .unset, .unset, .unset]) (St' := []) (σ' := σ) [.iconst (-1), .istore 10] (by decide +kernel) hc hT hF wi (by exact rfl) ?_
      exact am_wk (Ls' := [.val (.ref 0), .unset, .unset, .unset, .unset, .val (.int x5), .val (.int x6), .unset, .unset, .unset, .val (.int (-1 : Int32)), .unset, .unset, .unset, .unset, .unset]) (by simp [wkL]) (okc_q_check_241 hw hc 400 x5 x6 (-1 : Int32) σ)
def q_check_35 : Nat → Int32 → Int32 → Int32 → Int32 → Int32 → Int32 → Int32 → Int32 → Sg → Option (Int32 × Sg)
  | 0, _, _, _, _, _, _, _, _, _ => none
  | fuel + 1, x1, x2, x3, x5, x6, x7, x8, x9, σ =>
    if x9 < x6 then ((c_simulate x8 (-1 : Int32) σ).bind fun r1 => (q_misr x7 r1.1 x2 x3 r1.2).bind fun r2 => (q_lfsr x8 r2.2).bind fun r3 => q_check_35 fuel x1 x2 x3 x5 x6 r2.1 r3.1 (x9 + (1 : Int32)) r3.2) else ((c_getGoldenSignature σ).bind fun r4 => if x7 = r4.1 then (q_check_89 400 x1 x2 x3 x5 x6 x7 (0 : Int32) r4.2) else (some ((0 : Int32), r4.2)))
set_option maxRecDepth 65536 in
set_option maxHeartbeats 4000000 in
theorem okc_q_check_35 (hw : WH a0 Z) (hc : Cx p s m meth c Z "LogicBistOwnLaw" method_6_code 16 (some .boolean) "check") : ∀ (fuel : Nat) (x1 : Int32) (x2 : Int32) (x3 : Int32) (x5 : Int32) (x6 : Int32) (x7 : Int32) (x8 : Int32) (x9 : Int32) (σ : Sg), OkR p l e rm_q_check s m args below meth c Z "LogicBist" fsC n0 h0 (FM Z "LogicBist" fsC A wC h0 fI) A wC 0 0 35 [.val (.ref 0), .val (.int x1), .val (.int x2), .val (.int x3), .unset, .val (.int x5), .val (.int x6), .val (.int x7), .val (.int x8), .val (.int x9), .unset, .unset, .unset, .unset, .unset, .unset] [] σ (q_check_35 fuel x1 x2 x3 x5 x6 x7 x8 x9 σ) := by
  have hT := tabL hw "check"
  have hF := fsokC hw
  have wi := wiC hw
  intro fuel
  induction fuel with
  | zero => intro x1 x2 x3 x5 x6 x7 x8 x9 σ; exact am_none rfl
  | succ fuel ih =>
    intro x1 x2 x3 x5 x6 x7 x8 x9 σ
    rw [q_check_35]
    refine am_blk (pc' := 39) (Ls' := [.val (.ref 0), .val (.int x1), .val (.int x2), .val (.int x3), .unset, .val (.int x5), .val (.int x6), .val (.int x7), .val (.int x8), .val (.int x9), .unset, .unset, .unset, .unset, .unset, .unset]) (St' := [.int x6, .int x9]) (σ' := σ) [.iload 9, .iload 6] (by decide +kernel) hc hT hF wi (by exact rfl) ?_
    refine am_icmp_ge (o := 32) (pc1 := 71) (by decide +kernel) hc (fun hq => ?_) (fun hq => ?_)
    · refine am_blk (pc' := 48) (Ls' := [.val (.ref 0), .val (.int x1), .val (.int x2), .val (.int x3), .unset, .val (.int x5), .val (.int x6), .val (.int x7), .val (.int x8), .val (.int x9), .unset, .unset, .unset, .unset, .unset, .unset]) (St' := [.int (-1 : Int32), .int x8, .ref 0, .int x7]) (σ' := σ) [.iload 7, .aload_n 0, .iload 8, .iconst (-1)] (by decide +kernel) hc hT hF wi (by exact rfl) ?_
      refine am_callV_I (W0 := 1) (argsL := [.int x8, .int (-1 : Int32)]) (rest := [.int x7]) rfl (lk_L_18 hw) rfl (by decide +kernel) hc (SubW.refl _) rfl (by show arity "(II)I" 2 = true; decide +kernel) (ok_c_simulate hw x8 (-1 : Int32) _) rfl ⟨by decide, by decide, Nat.le_of_eq rfl, rfl, rfl, by decide, by decide⟩ (fun r1 hr => ?_)
      refine am_blk (pc' := 53) (Ls' := [.val (.ref 0), .val (.int x1), .val (.int x2), .val (.int x3), .unset, .val (.int x5), .val (.int x6), .val (.int x7), .val (.int x8), .val (.int x9), .unset, .unset, .unset, .unset, .unset, .unset]) (St' := [.int x3, .int x2, .int r1.1, .int x7]) (σ' := r1.2) [.iload_n 2, .iload_n 3] (by decide +kernel) hc hT hF wi (by exact rfl) ?_
      refine am_callS_I (W0 := 0) (argsL := [.int x7, .int r1.1, .int x2, .int x3]) (rest := []) (lk_L_22 hw) (by decide +kernel) hc (SubW.refl _) rfl (by show arity "(IIII)I" 4 = true; decide +kernel) (ok_q_misr hw x7 r1.1 x2 x3 _) rfl ⟨by decide, by decide, Nat.le_of_eq rfl, rfl, rfl, by decide, by decide⟩ (fun r2 hr => ?_)
      refine am_blk (pc' := 60) (Ls' := [.val (.ref 0), .val (.int x1), .val (.int x2), .val (.int x3), .unset, .val (.int x5), .val (.int x6), .val (.int r2.1), .val (.int x8), .val (.int x9), .unset, .unset, .unset, .unset, .unset, .unset]) (St' := [.int x8]) (σ' := r2.2) [.istore 7, .iload 8] (by decide +kernel) hc hT hF wi (by exact rfl) ?_
      refine am_callS_I (W0 := 0) (argsL := [.int x8]) (rest := []) (lk_L_28 hw) (by decide +kernel) hc (SubW.refl _) rfl (by show arity "(I)I" 1 = true; decide +kernel) (ok_q_lfsr hw x8 _) rfl ⟨by decide, by decide, Nat.le_of_eq rfl, rfl, rfl, by decide, by decide⟩ (fun r3 hr => ?_)
      refine am_blk (pc' := 35) (Ls' := [.val (.ref 0), .val (.int x1), .val (.int x2), .val (.int x3), .unset, .val (.int x5), .val (.int x6), .val (.int r2.1), .val (.int r3.1), .val (.int (x9 + (1 : Int32))), .unset, .unset, .unset, .unset, .unset, .unset]) (St' := []) (σ' := r3.2) [.istore 8, .iinc 9 1, .goto (-33)] (by decide +kernel) hc hT hF wi (by exact rfl) ?_
      exact am_wk (Ls' := [.val (.ref 0), .val (.int x1), .val (.int x2), .val (.int x3), .unset, .val (.int x5), .val (.int x6), .val (.int r2.1), .val (.int r3.1), .val (.int (x9 + (1 : Int32))), .unset, .unset, .unset, .unset, .unset, .unset]) (by simp [wkL]) (ih x1 x2 x3 x5 x6 r2.1 r3.1 (x9 + (1 : Int32)) r3.2)
    · refine am_blk (pc' := 74) (Ls' := [.val (.ref 0), .val (.int x1), .val (.int x2), .val (.int x3), .unset, .val (.int x5), .val (.int x6), .val (.int x7), .val (.int x8), .val (.int x9), .unset, .unset, .unset, .unset, .unset, .unset]) (St' := [.ref 0, .int x7]) (σ' := σ) [.iload 7, .aload_n 0] (by decide +kernel) hc hT hF wi (by exact rfl) ?_
      refine am_callV_I (W0 := 1) (argsL := []) (rest := [.int x7]) rfl (lk_L_32 hw) rfl (by decide +kernel) hc (SubW.refl _) rfl (by show arity "()I" 0 = true; decide +kernel) (ok_c_getGoldenSignature hw _) rfl ⟨by decide, by decide, Nat.le_of_eq rfl, rfl, rfl, by decide, by decide⟩ (fun r4 hr => ?_)
      refine am_icmp_eq (o := 5) (pc1 := 82) (by decide +kernel) hc (fun hq => ?_) (fun hq => ?_)
      · refine am_blk (pc' := 89) (Ls' := [.val (.ref 0), .val (.int x1), .val (.int x2), .val (.int x3), .unset, .val (.int x5), .val (.int x6), .val (.int x7), .val (.int x8), .val (.int x7), .val (.int (0 : Int32)), .unset, .unset, .unset, .unset, .unset]) (St' := []) (σ' := r4.2) [.iload 7, .istore 9, .iconst 0, .istore 10] (by decide +kernel) hc hT hF wi (by exact rfl) ?_
        exact am_wk (Ls' := [.val (.ref 0), .val (.int x1), .val (.int x2), .val (.int x3), .unset, .val (.int x5), .val (.int x6), .unset, .unset, .val (.int x7), .val (.int (0 : Int32)), .unset, .unset, .unset, .unset, .unset]) (by simp [wkL]) (okc_q_check_89 hw hc 400 x1 x2 x3 x5 x6 x7 (0 : Int32) r4.2)
      · refine am_blk (pc' := 81) (Ls' := [.val (.ref 0), .val (.int x1), .val (.int x2), .val (.int x3), .unset, .val (.int x5), .val (.int x6), .val (.int x7), .val (.int x8), .val (.int x9), .unset, .unset, .unset, .unset, .unset, .unset]) (St' := [.int (0 : Int32)]) (σ' := r4.2) [.iconst 0] (by decide +kernel) hc hT hF wi (by exact rfl) ?_
        exact am_retZ (by decide +kernel) hc (by decide) (by decide) (fun h W O => ⟨rfl, W, O⟩)
def q_check (x1 : Int32) (x2 : Int32) (x3 : Int32) (x4 : Int32) (x5 : Int32) (σ : Sg) : Option (Int32 × Sg) :=
  (c_getPatternCount σ).bind fun r1 => if r1.1 = x4 then ((c_getFaultCount r1.2).bind fun r2 => if r2.1 = x5 then (q_check_35 400 x1 x2 x3 x5 x4 (0 : Int32) x1 (0 : Int32) r2.2) else (some ((0 : Int32), r2.2))) else (some ((0 : Int32), r1.2))
set_option maxRecDepth 65536 in
set_option maxHeartbeats 4000000 in
theorem ok_q_check (hw : WH a0 Z) (x1 : Int32) (x2 : Int32) (x3 : Int32) (x4 : Int32) (x5 : Int32) (σ : Sg) : ∀ x, q_check x1 x2 x3 x4 x5 σ = some x → Con l Z "LogicBist" fsC (⟨"LogicBistOwnLaw", "check", "(LLogicBist;IIIII)Z"⟩ : MethodName) method_6_code 16 (some .boolean) rm_q_check wC [.ref 0, .int x1, .int x2, .int x3, .int x4, .int x5] σ (fI x).1 (fI x).2 := by
  refine am_con pnL ?_
  intro p e s m below meth c A n0 h0 hc
  have hT := tabL hw "check"
  have hF := fsokC hw
  have wi := wiC hw
  unfold q_check
  refine am_blk (pc' := 1) (Ls' := [.val (.ref 0), .val (.int x1), .val (.int x2), .val (.int x3), .val (.int x4), .val (.int x5), .unset, .unset, .unset, .unset, .unset, .unset, .unset, .unset, .unset, .unset]) (St' := [.ref 0]) (σ' := σ) [.aload_n 0] (by decide +kernel) hc hT hF wi (by exact rfl) ?_
  refine am_callV_I (W0 := 0) (argsL := []) (rest := []) rfl (lk_L_9 hw) rfl (by decide +kernel) hc (SubW.refl _) rfl (by show arity "()I" 0 = true; decide +kernel) (ok_c_getPatternCount hw _) rfl ⟨by decide, by decide, Nat.le_of_eq rfl, rfl, rfl, by decide, by decide⟩ (fun r1 hr => ?_)
  refine am_blk (pc' := 6) (Ls' := [.val (.ref 0), .val (.int x1), .val (.int x2), .val (.int x3), .val (.int x4), .val (.int x5), .unset, .unset, .unset, .unset, .unset, .unset, .unset, .unset, .unset, .unset]) (St' := [.int x4, .int r1.1]) (σ' := r1.2) [.iload 4] (by decide +kernel) hc hT hF wi (by exact rfl) ?_
  refine am_icmp_eq (o := 5) (pc1 := 11) (by decide +kernel) hc (fun hq => ?_) (fun hq => ?_)
  · refine am_blk (pc' := 12) (Ls' := [.val (.ref 0), .val (.int x1), .val (.int x2), .val (.int x3), .val (.int x4), .val (.int x5), .unset, .unset, .unset, .unset, .unset, .unset, .unset, .unset, .unset, .unset]) (St' := [.ref 0]) (σ' := r1.2) [.aload_n 0] (by decide +kernel) hc hT hF wi (by exact rfl) ?_
    refine am_callV_I (W0 := 0) (argsL := []) (rest := []) rfl (lk_L_15 hw) rfl (by decide +kernel) hc (SubW.refl _) rfl (by show arity "()I" 0 = true; decide +kernel) (ok_c_getFaultCount hw _) rfl ⟨by decide, by decide, Nat.le_of_eq rfl, rfl, rfl, by decide, by decide⟩ (fun r2 hr => ?_)
    refine am_blk (pc' := 17) (Ls' := [.val (.ref 0), .val (.int x1), .val (.int x2), .val (.int x3), .val (.int x4), .val (.int x5), .unset, .unset, .unset, .unset, .unset, .unset, .unset, .unset, .unset, .unset]) (St' := [.int x5, .int r2.1]) (σ' := r2.2) [.iload 5] (by decide +kernel) hc hT hF wi (by exact rfl) ?_
    refine am_icmp_eq (o := 5) (pc1 := 22) (by decide +kernel) hc (fun hq => ?_) (fun hq => ?_)
    · refine am_blk (pc' := 35) (Ls' := [.val (.ref 0), .val (.int x1), .val (.int x2), .val (.int x3), .val (.int x4), .val (.int x5), .val (.int x4), .val (.int (0 : Int32)), .val (.int x1), .val (.int (0 : Int32)), .unset, .unset, .unset, .unset, .unset, .unset]) (St' := []) (σ' := r2.2) [.iload 4, .istore 6, .iconst 0, .istore 7, .iload_n 1, .istore 8, .iconst 0, .istore 9] (by decide +kernel) hc hT hF wi (by exact rfl) ?_
      exact am_wk (Ls' := [.val (.ref 0), .val (.int x1), .val (.int x2), .val (.int x3), .unset, .val (.int x5), .val (.int x4), .val (.int (0 : Int32)), .val (.int x1), .val (.int (0 : Int32)), .unset, .unset, .unset, .unset, .unset, .unset]) (by simp [wkL]) (okc_q_check_35 hw hc 400 x1 x2 x3 x5 x4 (0 : Int32) x1 (0 : Int32) r2.2)
    · refine am_blk (pc' := 21) (Ls' := [.val (.ref 0), .val (.int x1), .val (.int x2), .val (.int x3), .val (.int x4), .val (.int x5), .unset, .unset, .unset, .unset, .unset, .unset, .unset, .unset, .unset, .unset]) (St' := [.int (0 : Int32)]) (σ' := r2.2) [.iconst 0] (by decide +kernel) hc hT hF wi (by exact rfl) ?_
      exact am_retZ (by decide +kernel) hc (by decide) (by decide) (fun h W O => ⟨rfl, W, O⟩)
  · refine am_blk (pc' := 10) (Ls' := [.val (.ref 0), .val (.int x1), .val (.int x2), .val (.int x3), .val (.int x4), .val (.int x5), .unset, .unset, .unset, .unset, .unset, .unset, .unset, .unset, .unset, .unset]) (St' := [.int (0 : Int32)]) (σ' := r1.2) [.iconst 0] (by decide +kernel) hc hT hF wi (by exact rfl) ?_
    exact am_retZ (by decide +kernel) hc (by decide) (by decide) (fun h W O => ⟨rfl, W, O⟩)
abbrev rm_c_misrStep : Room := { frames := 0, cells := 0, slots := 0, locals := 0 }
def c_misrStep_65 (k26 : Int32 → Int32 → Int32 → Sg → Option (Int32 × Sg)) (x2 : Int32) (x4 : Int32) (x5 : Int32) (σ : Sg) : Option (Int32 × Sg) :=
  k26 x2 x4 (x5 + (1 : Int32)) σ
set_option maxRecDepth 65536 in
set_option maxHeartbeats 4000000 in
theorem okc_c_misrStep_65 (hw : WH a0 Z) (hc : Cx p s m meth c Z "LogicBist" prog_1_method_30_code 6 (some .int) "misrStep") (k26 : Int32 → Int32 → Int32 → Sg → Option (Int32 × Sg)) (hk26 : ∀ (x2 : Int32) (x4 : Int32) (x5 : Int32) (σ : Sg), OkR p l e rm_c_misrStep s m args below meth c Z "LogicBist" fsC n0 h0 (FM Z "LogicBist" fsC A wC h0 fI) A wC 0 0 26 [.val (.ref 0), .unset, .val (.int x2), .unset, .val (.int x4), .val (.int x5)] [] σ (k26 x2 x4 x5 σ)) (x2 : Int32) (x4 : Int32) (x5 : Int32) (σ : Sg) : OkR p l e rm_c_misrStep s m args below meth c Z "LogicBist" fsC n0 h0 (FM Z "LogicBist" fsC A wC h0 fI) A wC 0 0 65 [.val (.ref 0), .unset, .val (.int x2), .unset, .val (.int x4), .val (.int x5)] [] σ (c_misrStep_65 k26 x2 x4 x5 σ) := by
  have hT := tabC hw "misrStep"
  have hF := fsokC hw
  have wi := wiC hw
  unfold c_misrStep_65
  refine am_blk (pc' := 26) (Ls' := [.val (.ref 0), .unset, .val (.int x2), .unset, .val (.int x4), .val (.int (x5 + (1 : Int32)))]) (St' := []) (σ' := σ) [.iinc 5 1, .goto (-42)] (by decide +kernel) hc hT hF wi (by exact rfl) ?_
  exact am_wk (Ls' := [.val (.ref 0), .unset, .val (.int x2), .unset, .val (.int x4), .val (.int (x5 + (1 : Int32)))]) (by simp [wkL]) (hk26 x2 x4 (x5 + (1 : Int32)) σ)
def c_misrStep_26 : Nat → Int32 → Int32 → Int32 → Sg → Option (Int32 × Sg)
  | 0, _, _, _, _ => none
  | fuel + 1, x2, x4, x5, σ =>
    if x5 < (gi σ 0 14) then (if x5 < (8 : Int32) then (if ((XT.ushr x2 x5) &&& (1 : Int32)) = 0 then (c_misrStep_65 (c_misrStep_26 fuel) x2 x4 x5 σ) else (if (gi σ 0 11) = 0 then none else (c_misrStep_65 (c_misrStep_26 fuel) x2 (x4 ^^^ ((1 : Int32) <<< ((x5 % (gi σ 0 11)) &&& 31))) x5 σ))) else (some (x4, σ))) else (some (x4, σ))
set_option maxRecDepth 65536 in
set_option maxHeartbeats 4000000 in
theorem okc_c_misrStep_26 (hw : WH a0 Z) (hc : Cx p s m meth c Z "LogicBist" prog_1_method_30_code 6 (some .int) "misrStep") : ∀ (fuel : Nat) (x2 : Int32) (x4 : Int32) (x5 : Int32) (σ : Sg), OkR p l e rm_c_misrStep s m args below meth c Z "LogicBist" fsC n0 h0 (FM Z "LogicBist" fsC A wC h0 fI) A wC 0 0 26 [.val (.ref 0), .unset, .val (.int x2), .unset, .val (.int x4), .val (.int x5)] [] σ (c_misrStep_26 fuel x2 x4 x5 σ) := by
  have hT := tabC hw "misrStep"
  have hF := fsokC hw
  have wi := wiC hw
  intro fuel
  induction fuel with
  | zero => intro x2 x4 x5 σ; exact am_none rfl
  | succ fuel ih =>
    intro x2 x4 x5 σ
    rw [c_misrStep_26]
    refine am_blk (pc' := 32) (Ls' := [.val (.ref 0), .unset, .val (.int x2), .unset, .val (.int x4), .val (.int x5)]) (St' := [.int (gi σ 0 14), .int x5]) (σ' := σ) [.iload 5, .aload_n 0, .getfield 59] (by decide +kernel) hc hT hF wi (by exact rfl) ?_
    refine am_icmp_ge (o := 39) (pc1 := 71) (by decide +kernel) hc (fun hq => ?_) (fun hq => ?_)
    · refine am_blk (pc' := 39) (Ls' := [.val (.ref 0), .unset, .val (.int x2), .unset, .val (.int x4), .val (.int x5)]) (St' := [.int (8 : Int32), .int x5]) (σ' := σ) [.iload 5, .bipush 8] (by decide +kernel) hc hT hF wi (by exact rfl) ?_
      refine am_icmp_ge (o := 32) (pc1 := 71) (by decide +kernel) hc (fun hq => ?_) (fun hq => ?_)
      · refine am_blk (pc' := 48) (Ls' := [.val (.ref 0), .unset, .val (.int x2), .unset, .val (.int x4), .val (.int x5)]) (St' := [.int ((XT.ushr x2 x5) &&& (1 : Int32))]) (σ' := σ) [.iload_n 2, .iload 5, .iushr, .iconst 1, .iand] (by decide +kernel) hc hT hF wi (by exact rfl) ?_
        refine am_if_eq (o := 17) (pc1 := 65) (by decide +kernel) hc (fun hq => ?_) (fun hq => ?_)
        · exact am_wk (Ls' := [.val (.ref 0), .unset, .val (.int x2), .unset, .val (.int x4), .val (.int x5)]) (by simp [wkL]) (okc_c_misrStep_65 hw hc _ ih x2 x4 x5 σ)
        · refine am_blk (pc' := 60) (Ls' := [.val (.ref 0), .unset, .val (.int x2), .unset, .val (.int x4), .val (.int x5)]) (St' := [.int (gi σ 0 11), .int x5, .int (1 : Int32), .int x4]) (σ' := σ) [.iload 4, .iconst 1, .iload 5, .aload_n 0, .getfield 50] (by decide +kernel) hc hT hF wi (by exact rfl) ?_
          refine am_irem (by decide +kernel) hc (fun hy => ?_)
          refine am_blk (pc' := 65) (Ls' := [.val (.ref 0), .unset, .val (.int x2), .unset, .val (.int (x4 ^^^ ((1 : Int32) <<< ((x5 % (gi σ 0 11)) &&& 31)))), .val (.int x5)]) (St' := []) (σ' := σ) [.ishl, .ixor, .istore 4] (by decide +kernel) hc hT hF wi (by exact rfl) ?_
          exact am_wk (Ls' := [.val (.ref 0), .unset, .val (.int x2), .unset, .val (.int (x4 ^^^ ((1 : Int32) <<< ((x5 % (gi σ 0 11)) &&& 31)))), .val (.int x5)]) (by simp [wkL]) (okc_c_misrStep_65 hw hc _ ih x2 (x4 ^^^ ((1 : Int32) <<< ((x5 % (gi σ 0 11)) &&& 31))) x5 σ)
      · refine am_blk (pc' := 73) (Ls' := [.val (.ref 0), .unset, .val (.int x2), .unset, .val (.int x4), .val (.int x5)]) (St' := [.int x4]) (σ' := σ) [.iload 4] (by decide +kernel) hc hT hF wi (by exact rfl) ?_
        exact am_retI (by decide +kernel) hc (by decide) (by decide) (fun h W O => ⟨rfl, W, O⟩)
    · refine am_blk (pc' := 73) (Ls' := [.val (.ref 0), .unset, .val (.int x2), .unset, .val (.int x4), .val (.int x5)]) (St' := [.int x4]) (σ' := σ) [.iload 4] (by decide +kernel) hc hT hF wi (by exact rfl) ?_
      exact am_retI (by decide +kernel) hc (by decide) (by decide) (fun h W O => ⟨rfl, W, O⟩)
def c_misrStep_23 (x2 : Int32) (x4 : Int32) (σ : Sg) : Option (Int32 × Sg) :=
  c_misrStep_26 400 x2 x4 (0 : Int32) σ
set_option maxRecDepth 65536 in
set_option maxHeartbeats 4000000 in
theorem okc_c_misrStep_23 (hw : WH a0 Z) (hc : Cx p s m meth c Z "LogicBist" prog_1_method_30_code 6 (some .int) "misrStep") (x2 : Int32) (x4 : Int32) (σ : Sg) : OkR p l e rm_c_misrStep s m args below meth c Z "LogicBist" fsC n0 h0 (FM Z "LogicBist" fsC A wC h0 fI) A wC 0 0 23 [.val (.ref 0), .unset, .val (.int x2), .unset, .val (.int x4), .unset] [] σ (c_misrStep_23 x2 x4 σ) := by
  have hT := tabC hw "misrStep"
  have hF := fsokC hw
  have wi := wiC hw
  unfold c_misrStep_23
  refine am_blk (pc' := 26) (Ls' := [.val (.ref 0), .unset, .val (.int x2), .unset, .val (.int x4), .val (.int (0 : Int32))]) (St' := []) (σ' := σ) [.iconst 0, .istore 5] (by decide +kernel) hc hT hF wi (by exact rfl) ?_
  exact am_wk (Ls' := [.val (.ref 0), .unset, .val (.int x2), .unset, .val (.int x4), .val (.int (0 : Int32))]) (by simp [wkL]) (okc_c_misrStep_26 hw hc 400 x2 x4 (0 : Int32) σ)
def c_misrStep (x1 : Int32) (x2 : Int32) (σ : Sg) : Option (Int32 × Sg) :=
  if (x1 &&& (1 : Int32)) = (1 : Int32) then (c_misrStep_23 x2 ((XT.ushr x1 (1 : Int32)) ^^^ (gi σ 0 16)) σ) else (c_misrStep_23 x2 (XT.ushr x1 (1 : Int32)) σ)
set_option maxRecDepth 65536 in
set_option maxHeartbeats 4000000 in
theorem ok_c_misrStep (hw : WH a0 Z) (x1 : Int32) (x2 : Int32) (σ : Sg) : ∀ x, c_misrStep x1 x2 σ = some x → Con l Z "LogicBist" fsC (⟨"LogicBist", "misrStep", "(II)I"⟩ : MethodName) prog_1_method_30_code 6 (some .int) rm_c_misrStep wC [.ref 0, .int x1, .int x2] σ (fI x).1 (fI x).2 := by
  refine am_con pnC ?_
  intro p e s m below meth c A n0 h0 hc
  have hT := tabC hw "misrStep"
  have hF := fsokC hw
  have wi := wiC hw
  unfold c_misrStep
  refine am_blk (pc' := 11) (Ls' := [.val (.ref 0), .val (.int x1), .val (.int x2), .val (.int (x1 &&& (1 : Int32))), .val (.int (XT.ushr x1 (1 : Int32))), .unset]) (St' := [.int (1 : Int32), .int (x1 &&& (1 : Int32))]) (σ' := σ) [.iload_n 1, .iconst 1, .iand, .istore_n 3, .iload_n 1, .iconst 1, .iushr, .istore 4, .iload_n 3, .iconst 1] (by decide +kernel) hc hT hF wi (by exact rfl) ?_
  refine am_icmp_ne (o := 12) (pc1 := 23) (by decide +kernel) hc (fun hq => ?_) (fun hq => ?_)
  · refine am_blk (pc' := 23) (Ls' := [.val (.ref 0), .val (.int x1), .val (.int x2), .val (.int (x1 &&& (1 : Int32))), .val (.int ((XT.ushr x1 (1 : Int32)) ^^^ (gi σ 0 16))), .unset]) (St' := []) (σ' := σ) [.iload 4, .aload_n 0, .getfield 66, .ixor, .istore 4] (by decide +kernel) hc hT hF wi (by exact rfl) ?_
    exact am_wk (Ls' := [.val (.ref 0), .unset, .val (.int x2), .unset, .val (.int ((XT.ushr x1 (1 : Int32)) ^^^ (gi σ 0 16))), .unset]) (by simp [wkL]) (okc_c_misrStep_23 hw hc x2 ((XT.ushr x1 (1 : Int32)) ^^^ (gi σ 0 16)) σ)
  · exact am_wk (Ls' := [.val (.ref 0), .unset, .val (.int x2), .unset, .val (.int (XT.ushr x1 (1 : Int32))), .unset]) (by simp [wkL]) (okc_c_misrStep_23 hw hc x2 (XT.ushr x1 (1 : Int32)) σ)
abbrev rm_c_groupCount : Room := { frames := 2, cells := 0, slots := 0, locals := 25 }
def c_groupCount (σ : Sg) : Option (Int32 × Sg) :=
  (c_faultCount σ).bind fun r1 => some (XT.ushr (r1.1 + (63 : Int32)) (6 : Int32), r1.2)
set_option maxRecDepth 65536 in
set_option maxHeartbeats 4000000 in
theorem ok_c_groupCount (hw : WH a0 Z) (σ : Sg) : ∀ x, c_groupCount σ = some x → Con l Z "LogicBist" fsC (⟨"LogicBist", "groupCount", "()I"⟩ : MethodName) prog_1_method_34_code 1 (some .int) rm_c_groupCount wC [.ref 0] σ (fI x).1 (fI x).2 := by
  refine am_con pnC ?_
  intro p e s m below meth c A n0 h0 hc
  have hT := tabC hw "groupCount"
  have hF := fsokC hw
  have wi := wiC hw
  unfold c_groupCount
  refine am_blk (pc' := 1) (Ls' := [.val (.ref 0)]) (St' := [.ref 0]) (σ' := σ) [.aload_n 0] (by decide +kernel) hc hT hF wi (by exact rfl) ?_
  refine am_callP_I (W0 := 0) (argsL := []) (rest := []) rfl (lk_C_118 hw) rfl wi (by decide +kernel) hc (SubW.refl _) rfl (by show arity "()I" 0 = true; decide +kernel) (ok_c_faultCount hw _) rfl ⟨by decide, by decide, Nat.le_of_eq rfl, rfl, rfl, by decide, by decide⟩ (fun r1 hr => ?_)
  refine am_blk (pc' := 10) (Ls' := [.val (.ref 0)]) (St' := [.int (XT.ushr (r1.1 + (63 : Int32)) (6 : Int32))]) (σ' := r1.2) [.bipush 63, .iadd, .bipush 6, .iushr] (by decide +kernel) hc hT hF wi (by exact rfl) ?_
  exact am_retI (by decide +kernel) hc (by decide) (by decide) (fun h W O => ⟨rfl, W, O⟩)
abbrev rm_c_groupFirst : Room := { frames := 0, cells := 0, slots := 0, locals := 0 }
def c_groupFirst (x1 : Int32) (σ : Sg) : Option (Int32 × Sg) :=
  some (x1 <<< ((6 : Int32) &&& 31), σ)
set_option maxRecDepth 65536 in
set_option maxHeartbeats 4000000 in
theorem ok_c_groupFirst (hw : WH a0 Z) (x1 : Int32) (σ : Sg) : ∀ x, c_groupFirst x1 σ = some x → Con l Z "LogicBist" fsC (⟨"LogicBist", "groupFirst", "(I)I"⟩ : MethodName) prog_1_method_35_code 2 (some .int) rm_c_groupFirst wC [.ref 0, .int x1] σ (fI x).1 (fI x).2 := by
  refine am_con pnC ?_
  intro p e s m below meth c A n0 h0 hc
  have hT := tabC hw "groupFirst"
  have hF := fsokC hw
  have wi := wiC hw
  unfold c_groupFirst
  refine am_blk (pc' := 4) (Ls' := [.val (.ref 0), .val (.int x1)]) (St' := [.int (x1 <<< ((6 : Int32) &&& 31))]) (σ' := σ) [.iload_n 1, .bipush 6, .ishl] (by decide +kernel) hc hT hF wi (by exact rfl) ?_
  exact am_retI (by decide +kernel) hc (by decide) (by decide) (fun h W O => ⟨rfl, W, O⟩)
abbrev rm_c_groupEnd : Room := { frames := 2, cells := 0, slots := 0, locals := 25 }
def c_groupEnd (x1 : Int32) (σ : Sg) : Option (Int32 × Sg) :=
  (c_groupFirst x1 σ).bind fun r1 => (c_faultCount r1.2).bind fun r2 => if r2.1 < (r1.1 + (64 : Int32)) then (some (r2.1, r2.2)) else (some (r1.1 + (64 : Int32), r2.2))
set_option maxRecDepth 65536 in
set_option maxHeartbeats 4000000 in
theorem ok_c_groupEnd (hw : WH a0 Z) (x1 : Int32) (σ : Sg) : ∀ x, c_groupEnd x1 σ = some x → Con l Z "LogicBist" fsC (⟨"LogicBist", "groupEnd", "(I)I"⟩ : MethodName) prog_1_method_36_code 4 (some .int) rm_c_groupEnd wC [.ref 0, .int x1] σ (fI x).1 (fI x).2 := by
  refine am_con pnC ?_
  intro p e s m below meth c A n0 h0 hc
  have hT := tabC hw "groupEnd"
  have hF := fsokC hw
  have wi := wiC hw
  unfold c_groupEnd
  refine am_blk (pc' := 2) (Ls' := [.val (.ref 0), .val (.int x1), .unset, .unset]) (St' := [.int x1, .ref 0]) (σ' := σ) [.aload_n 0, .iload_n 1] (by decide +kernel) hc hT hF wi (by exact rfl) ?_
  refine am_callP_I (W0 := 0) (argsL := [.int x1]) (rest := []) rfl (lk_C_140 hw) rfl wi (by decide +kernel) hc (SubW.refl _) rfl (by show arity "(I)I" 1 = true; decide +kernel) (ok_c_groupFirst hw x1 _) rfl ⟨by decide, by decide, Nat.le_of_eq rfl, rfl, rfl, by decide, by decide⟩ (fun r1 hr => ?_)
  refine am_blk (pc' := 10) (Ls' := [.val (.ref 0), .val (.int x1), .val (.int (r1.1 + (64 : Int32))), .unset]) (St' := [.ref 0]) (σ' := r1.2) [.bipush 64, .iadd, .istore_n 2, .aload_n 0] (by decide +kernel) hc hT hF wi (by exact rfl) ?_
  refine am_callP_I (W0 := 0) (argsL := []) (rest := []) rfl (lk_C_118 hw) rfl wi (by decide +kernel) hc (SubW.refl _) rfl (by show arity "()I" 0 = true; decide +kernel) (ok_c_faultCount hw _) rfl ⟨by decide, by decide, Nat.le_of_eq rfl, rfl, rfl, by decide, by decide⟩ (fun r2 hr => ?_)
  refine am_blk (pc' := 16) (Ls' := [.val (.ref 0), .val (.int x1), .val (.int (r1.1 + (64 : Int32))), .val (.int r2.1)]) (St' := [.int r2.1, .int (r1.1 + (64 : Int32))]) (σ' := r2.2) [.istore_n 3, .iload_n 2, .iload_n 3] (by decide +kernel) hc hT hF wi (by exact rfl) ?_
  refine am_icmp_le (o := 5) (pc1 := 21) (by decide +kernel) hc (fun hq => ?_) (fun hq => ?_)
  · refine am_blk (pc' := 20) (Ls' := [.val (.ref 0), .val (.int x1), .val (.int (r1.1 + (64 : Int32))), .val (.int r2.1)]) (St' := [.int r2.1]) (σ' := r2.2) [.iload_n 3] (by decide +kernel) hc hT hF wi (by exact rfl) ?_
    exact am_retI (by decide +kernel) hc (by decide) (by decide) (fun h W O => ⟨rfl, W, O⟩)
  · refine am_blk (pc' := 22) (Ls' := [.val (.ref 0), .val (.int x1), .val (.int (r1.1 + (64 : Int32))), .val (.int r2.1)]) (St' := [.int (r1.1 + (64 : Int32))]) (σ' := r2.2) [.iload_n 2] (by decide +kernel) hc hT hF wi (by exact rfl) ?_
    exact am_retI (by decide +kernel) hc (by decide) (by decide) (fun h W O => ⟨rfl, W, O⟩)
abbrev rm_c_recordGroup : Room := { frames := 3, cells := 0, slots := 0, locals := 40 }
def c_recordGroup_103 (k18 : Int32 → Int32 → Int32 → Int32 → Int32 → Sg → Option Sg) (x2 : Int32) (x3 : Int32) (x4 : Int32) (x5 : Int32) (x6 : Int32) (σ : Sg) : Option Sg :=
  k18 x2 x3 x4 x5 (x6 + (1 : Int32)) σ
set_option maxRecDepth 65536 in
set_option maxHeartbeats 4000000 in
theorem okc_c_recordGroup_103 (hw : WH a0 Z) (hc : Cx p s m meth c Z "LogicBist" prog_1_method_22_code 8 none "recordGroup") (k18 : Int32 → Int32 → Int32 → Int32 → Int32 → Sg → Option Sg) (hk18 : ∀ (x2 : Int32) (x3 : Int32) (x4 : Int32) (x5 : Int32) (x6 : Int32) (σ : Sg), OkR p l e rm_c_recordGroup s m args below meth c Z "LogicBist" fsC n0 h0 (FM Z "LogicBist" fsC A wC h0 fV) A wC 0 0 18 [.val (.ref 0), .unset, .val (.int x2), .val (.int x3), .val (.int x4), .val (.int x5), .val (.int x6), .unset] [] σ (k18 x2 x3 x4 x5 x6 σ)) (x2 : Int32) (x3 : Int32) (x4 : Int32) (x5 : Int32) (x6 : Int32) (σ : Sg) : OkR p l e rm_c_recordGroup s m args below meth c Z "LogicBist" fsC n0 h0 (FM Z "LogicBist" fsC A wC h0 fV) A wC 0 0 103 [.val (.ref 0), .unset, .val (.int x2), .val (.int x3), .val (.int x4), .val (.int x5), .val (.int x6), .unset] [] σ (c_recordGroup_103 k18 x2 x3 x4 x5 x6 σ) := by
  have hT := tabC hw "recordGroup"
  have hF := fsokC hw
  have wi := wiC hw
  unfold c_recordGroup_103
  refine am_blk (pc' := 18) (Ls' := [.val (.ref 0), .unset, .val (.int x2), .val (.int x3), .val (.int x4), .val (.int x5), .val (.int (x6 + (1 : Int32))), .unset]) (St' := []) (σ' := σ) [.iinc 6 1, .goto (-88)] (by decide +kernel) hc hT hF wi (by exact rfl) ?_
  exact am_wk (Ls' := [.val (.ref 0), .unset, .val (.int x2), .val (.int x3), .val (.int x4), .val (.int x5), .val (.int (x6 + (1 : Int32))), .unset]) (by simp [wkL]) (hk18 x2 x3 x4 x5 (x6 + (1 : Int32)) σ)
def c_recordGroup_18 : Nat → Int32 → Int32 → Int32 → Int32 → Int32 → Sg → Option Sg
  | 0, _, _, _, _, _, _ => none
  | fuel + 1, x2, x3, x4, x5, x6, σ =>
    if x6 < x5 then (if x6 < (80 : Int32) then (if x6 < 0 then (c_recordGroup_103 (c_recordGroup_18 fuel) x2 x3 x4 x5 x6 σ) else ((c_outputWordAt (x6 - x4) σ).bind fun r1 => if inb x6 80 = true then ((c_misrStep (gi r1.2 6 (nx x6)) r1.1 r1.2).bind fun r2 => if r1.1 = x2 then (c_recordGroup_103 (c_recordGroup_18 fuel) x2 x3 x4 x5 x6 (si r2.2 6 (nx x6) r2.1)) else (if (gi r2.2 8 (nx x6)) = 0 then (c_recordGroup_103 (c_recordGroup_18 fuel) x2 x3 x4 x5 x6 (si (si (si r2.2 6 (nx x6) r2.1) 8 (nx x6) (1 : Int32)) 7 (nx x6) x3)) else (c_recordGroup_103 (c_recordGroup_18 fuel) x2 x3 x4 x5 x6 (si r2.2 6 (nx x6) r2.1)))) else none)) else (some σ)) else (some σ)
set_option maxRecDepth 65536 in
set_option maxHeartbeats 4000000 in
theorem okc_c_recordGroup_18 (hw : WH a0 Z) (hc : Cx p s m meth c Z "LogicBist" prog_1_method_22_code 8 none "recordGroup") : ∀ (fuel : Nat) (x2 : Int32) (x3 : Int32) (x4 : Int32) (x5 : Int32) (x6 : Int32) (σ : Sg), OkR p l e rm_c_recordGroup s m args below meth c Z "LogicBist" fsC n0 h0 (FM Z "LogicBist" fsC A wC h0 fV) A wC 0 0 18 [.val (.ref 0), .unset, .val (.int x2), .val (.int x3), .val (.int x4), .val (.int x5), .val (.int x6), .unset] [] σ (c_recordGroup_18 fuel x2 x3 x4 x5 x6 σ) := by
  have hT := tabC hw "recordGroup"
  have hF := fsokC hw
  have wi := wiC hw
  intro fuel
  induction fuel with
  | zero => intro x2 x3 x4 x5 x6 σ; exact am_none rfl
  | succ fuel ih =>
    intro x2 x3 x4 x5 x6 σ
    rw [c_recordGroup_18]
    refine am_blk (pc' := 22) (Ls' := [.val (.ref 0), .unset, .val (.int x2), .val (.int x3), .val (.int x4), .val (.int x5), .val (.int x6), .unset]) (St' := [.int x5, .int x6]) (σ' := σ) [.iload 6, .iload 5] (by decide +kernel) hc hT hF wi (by exact rfl) ?_
    refine am_icmp_ge (o := 87) (pc1 := 109) (by decide +kernel) hc (fun hq => ?_) (fun hq => ?_)
    · refine am_blk (pc' := 29) (Ls' := [.val (.ref 0), .unset, .val (.int x2), .val (.int x3), .val (.int x4), .val (.int x5), .val (.int x6), .unset]) (St' := [.int (80 : Int32), .int x6]) (σ' := σ) [.iload 6, .bipush 80] (by decide +kernel) hc hT hF wi (by exact rfl) ?_
      refine am_icmp_ge (o := 80) (pc1 := 109) (by decide +kernel) hc (fun hq => ?_) (fun hq => ?_)
      · refine am_blk (pc' := 34) (Ls' := [.val (.ref 0), .unset, .val (.int x2), .val (.int x3), .val (.int x4), .val (.int x5), .val (.int x6), .unset]) (St' := [.int x6]) (σ' := σ) [.iload 6] (by decide +kernel) hc hT hF wi (by exact rfl) ?_
        refine am_if_ge (o := 6) (pc1 := 40) (by decide +kernel) hc (fun hq => ?_) (fun hq => ?_)
        · refine am_blk (pc' := 103) (Ls' := [.val (.ref 0), .unset, .val (.int x2), .val (.int x3), .val (.int x4), .val (.int x5), .val (.int x6), .unset]) (St' := []) (σ' := σ) [.goto 66] (by decide +kernel) hc hT hF wi (by exact rfl) ?_
          exact am_wk (Ls' := [.val (.ref 0), .unset, .val (.int x2), .val (.int x3), .val (.int x4), .val (.int x5), .val (.int x6), .unset]) (by simp [wkL]) (okc_c_recordGroup_103 hw hc _ ih x2 x3 x4 x5 x6 σ)
        · refine am_blk (pc' := 46) (Ls' := [.val (.ref 0), .unset, .val (.int x2), .val (.int x3), .val (.int x4), .val (.int x5), .val (.int x6), .unset]) (St' := [.int (x6 - x4), .ref 0]) (σ' := σ) [.aload_n 0, .iload 6, .iload 4, .isub] (by decide +kernel) hc hT hF wi (by exact rfl) ?_
          refine am_callP_I (W0 := 0) (argsL := [.int (x6 - x4)]) (rest := []) rfl (lk_C_99 hw) rfl wi (by decide +kernel) hc (SubW.refl _) rfl (by show arity "(I)I" 1 = true; decide +kernel) (ok_c_outputWordAt hw (x6 - x4) _) rfl ⟨by decide, by decide, Nat.le_of_eq rfl, rfl, rfl, by decide, by decide⟩ (fun r1 hr => ?_)
          refine am_blk (pc' := 64) (Ls' := [.val (.ref 0), .unset, .val (.int x2), .val (.int x3), .val (.int x4), .val (.int x5), .val (.int x6), .val (.int r1.1)]) (St' := [.int x6, .ref 6, .ref 0, .int x6, .ref 6]) (σ' := r1.2) [.istore 7, .aload_n 0, .getfield 26, .iload 6, .aload_n 0, .aload_n 0, .getfield 26, .iload 6] (by decide +kernel) hc hT hF wi (by exact rfl) ?_
          refine am_iaload (by decide +kernel) hc rfl (fun hb0 => ?_)
          refine am_blk (pc' := 67) (Ls' := [.val (.ref 0), .unset, .val (.int x2), .val (.int x3), .val (.int x4), .val (.int x5), .val (.int x6), .val (.int r1.1)]) (St' := [.int r1.1, .int (gi r1.2 6 (nx x6)), .ref 0, .int x6, .ref 6]) (σ' := r1.2) [.iload 7] (by decide +kernel) hc hT hF wi (by exact rfl) ?_
          refine am_callP_I (W0 := 2) (argsL := [.int (gi r1.2 6 (nx x6)), .int r1.1]) (rest := [.int x6, .ref 6]) rfl (lk_C_126 hw) rfl wi (by decide +kernel) hc (SubW.refl _) rfl (by show arity "(II)I" 2 = true; decide +kernel) (ok_c_misrStep hw (gi r1.2 6 (nx x6)) r1.1 _) rfl ⟨by decide, by decide, Nat.le_of_eq rfl, rfl, rfl, by decide, by decide⟩ (fun r2 hr => ?_)
          refine am_iastore_k hb0 (y := r2.1) rfl (by decide +kernel) hc rfl ?_
          refine am_blk (pc' := 74) (Ls' := [.val (.ref 0), .unset, .val (.int x2), .val (.int x3), .val (.int x4), .val (.int x5), .val (.int x6), .val (.int r1.1)]) (St' := [.int x2, .int r1.1]) (σ' := si r2.2 6 (nx x6) r2.1) [.iload 7, .iload_n 2] (by decide +kernel) hc hT hF wi (by exact rfl) ?_
          refine am_icmp_eq (o := 29) (pc1 := 103) (by decide +kernel) hc (fun hq => ?_) (fun hq => ?_)
          · exact am_wk (Ls' := [.val (.ref 0), .unset, .val (.int x2), .val (.int x3), .val (.int x4), .val (.int x5), .val (.int x6), .unset]) (by simp [wkL]) (okc_c_recordGroup_103 hw hc _ ih x2 x3 x4 x5 x6 (si r2.2 6 (nx x6) r2.1))
          · refine am_blk (pc' := 83) (Ls' := [.val (.ref 0), .unset, .val (.int x2), .val (.int x3), .val (.int x4), .val (.int x5), .val (.int x6), .val (.int r1.1)]) (St' := [.int x6, .ref 8]) (σ' := si r2.2 6 (nx x6) r2.1) [.aload_n 0, .getfield 32, .iload 6] (by decide +kernel) hc hT hF wi (by exact rfl) ?_
            refine am_baloadZ_k hb0 (by decide +kernel) hc rfl ?_
            refine am_if_ne (o := 19) (pc1 := 103) (by decide +kernel) hc (fun hq => ?_) (fun hq => ?_)
            · refine am_blk (pc' := 94) (Ls' := [.val (.ref 0), .unset, .val (.int x2), .val (.int x3), .val (.int x4), .val (.int x5), .val (.int x6), .val (.int r1.1)]) (St' := [.int (1 : Int32), .int x6, .ref 8]) (σ' := si r2.2 6 (nx x6) r2.1) [.aload_n 0, .getfield 32, .iload 6, .iconst 1] (by decide +kernel) hc hT hF wi (by exact rfl) ?_
              refine am_bastoreZ_k hb0 (y := (1 : Int32)) rfl (by decide +kernel) hc rfl ?_
              refine am_blk (pc' := 102) (Ls' := [.val (.ref 0), .unset, .val (.int x2), .val (.int x3), .val (.int x4), .val (.int x5), .val (.int x6), .val (.int r1.1)]) (St' := [.int x3, .int x6, .ref 7]) (σ' := si (si r2.2 6 (nx x6) r2.1) 8 (nx x6) (1 : Int32)) [.aload_n 0, .getfield 29, .iload 6, .iload_n 3] (by decide +kernel) hc hT hF wi (by exact rfl) ?_
              refine am_iastore_k hb0 (y := x3) rfl (by decide +kernel) hc rfl ?_
              exact am_wk (Ls' := [.val (.ref 0), .unset, .val (.int x2), .val (.int x3), .val (.int x4), .val (.int x5), .val (.int x6), .unset]) (by simp [wkL]) (okc_c_recordGroup_103 hw hc _ ih x2 x3 x4 x5 x6 (si (si (si r2.2 6 (nx x6) r2.1) 8 (nx x6) (1 : Int32)) 7 (nx x6) x3))
            · exact am_wk (Ls' := [.val (.ref 0), .unset, .val (.int x2), .val (.int x3), .val (.int x4), .val (.int x5), .val (.int x6), .unset]) (by simp [wkL]) (okc_c_recordGroup_103 hw hc _ ih x2 x3 x4 x5 x6 (si r2.2 6 (nx x6) r2.1))
      · exact am_retV (by decide +kernel) hc (by decide) (by decide) (fun h W O => ⟨rfl, W, O⟩)
    · exact am_retV (by decide +kernel) hc (by decide) (by decide) (fun h W O => ⟨rfl, W, O⟩)
def c_recordGroup (x1 : Int32) (x2 : Int32) (x3 : Int32) (σ : Sg) : Option Sg :=
  (c_groupFirst x1 σ).bind fun r1 => (c_groupEnd x1 r1.2).bind fun r2 => c_recordGroup_18 400 x2 x3 r1.1 r2.1 r1.1 r2.2
set_option maxRecDepth 65536 in
set_option maxHeartbeats 4000000 in
theorem ok_c_recordGroup (hw : WH a0 Z) (x1 : Int32) (x2 : Int32) (x3 : Int32) (σ : Sg) : ∀ x, c_recordGroup x1 x2 x3 σ = some x → Con l Z "LogicBist" fsC (⟨"LogicBist", "recordGroup", "(III)V"⟩ : MethodName) prog_1_method_22_code 8 none rm_c_recordGroup wC [.ref 0, .int x1, .int x2, .int x3] σ (fV x).1 (fV x).2 := by
  refine am_con pnC ?_
  intro p e s m below meth c A n0 h0 hc
  have hT := tabC hw "recordGroup"
  have hF := fsokC hw
  have wi := wiC hw
  unfold c_recordGroup
  refine am_blk (pc' := 2) (Ls' := [.val (.ref 0), .val (.int x1), .val (.int x2), .val (.int x3), .unset, .unset, .unset, .unset]) (St' := [.int x1, .ref 0]) (σ' := σ) [.aload_n 0, .iload_n 1] (by decide +kernel) hc hT hF wi (by exact rfl) ?_
  refine am_callP_I (W0 := 0) (argsL := [.int x1]) (rest := []) rfl (lk_C_140 hw) rfl wi (by decide +kernel) hc (SubW.refl _) rfl (by show arity "(I)I" 1 = true; decide +kernel) (ok_c_groupFirst hw x1 _) rfl ⟨by decide, by decide, Nat.le_of_eq rfl, rfl, rfl, by decide, by decide⟩ (fun r1 hr => ?_)
  refine am_blk (pc' := 9) (Ls' := [.val (.ref 0), .val (.int x1), .val (.int x2), .val (.int x3), .val (.int r1.1), .unset, .unset, .unset]) (St' := [.int x1, .ref 0]) (σ' := r1.2) [.istore 4, .aload_n 0, .iload_n 1] (by decide +kernel) hc hT hF wi (by exact rfl) ?_
  refine am_callP_I (W0 := 0) (argsL := [.int x1]) (rest := []) rfl (lk_C_143 hw) rfl wi (by decide +kernel) hc (SubW.refl _) rfl (by show arity "(I)I" 1 = true; decide +kernel) (ok_c_groupEnd hw x1 _) rfl ⟨by decide, by decide, Nat.le_of_eq rfl, rfl, rfl, by decide, by decide⟩ (fun r2 hr => ?_)
  refine am_blk (pc' := 18) (Ls' := [.val (.ref 0), .val (.int x1), .val (.int x2), .val (.int x3), .val (.int r1.1), .val (.int r2.1), .val (.int r1.1), .unset]) (St' := []) (σ' := r2.2) [.istore 5, .iload 4, .istore 6] (by decide +kernel) hc hT hF wi (by exact rfl) ?_
  exact am_wk (Ls' := [.val (.ref 0), .unset, .val (.int x2), .val (.int x3), .val (.int r1.1), .val (.int r2.1), .val (.int r1.1), .unset]) (by simp [wkL]) (okc_c_recordGroup_18 hw hc 400 x2 x3 r1.1 r2.1 r1.1 r2.2)
abbrev rm_c_lfsrStep : Room := { frames := 0, cells := 0, slots := 0, locals := 0 }
def c_lfsrStep (x1 : Int32) (σ : Sg) : Option (Int32 × Sg) :=
  if (x1 &&& (1 : Int32)) = (1 : Int32) then (some ((XT.ushr x1 (1 : Int32)) ^^^ (46080 : Int32), σ)) else (some (XT.ushr x1 (1 : Int32), σ))
set_option maxRecDepth 65536 in
set_option maxHeartbeats 4000000 in
theorem ok_c_lfsrStep (hw : WH a0 Z) (x1 : Int32) (σ : Sg) : ∀ x, c_lfsrStep x1 σ = some x → Con l Z "LogicBist" fsC (⟨"LogicBist", "lfsrStep", "(I)I"⟩ : MethodName) prog_1_method_31_code 4 (some .int) rm_c_lfsrStep wC [.ref 0, .int x1] σ (fI x).1 (fI x).2 := by
  refine am_con pnC ?_
  intro p e s m below meth c A n0 h0 hc
  have hT := tabC hw "lfsrStep"
  have hF := fsokC hw
  have wi := wiC hw
  unfold c_lfsrStep
  refine am_blk (pc' := 10) (Ls' := [.val (.ref 0), .val (.int x1), .val (.int (x1 &&& (1 : Int32))), .val (.int (XT.ushr x1 (1 : Int32)))]) (St' := [.int (1 : Int32), .int (x1 &&& (1 : Int32))]) (σ' := σ) [.iload_n 1, .iconst 1, .iand, .istore_n 2, .iload_n 1, .iconst 1, .iushr, .istore_n 3, .iload_n 2, .iconst 1] (by decide +kernel) hc hT hF wi (by exact rfl) ?_
  refine am_icmp_ne (o := 8) (pc1 := 18) (by decide +kernel) hc (fun hq => ?_) (fun hq => ?_)
  · refine am_blk (pc' := 19) (Ls' := [.val (.ref 0), .val (.int x1), .val (.int (x1 &&& (1 : Int32))), .val (.int ((XT.ushr x1 (1 : Int32)) ^^^ (46080 : Int32)))]) (St' := [.int ((XT.ushr x1 (1 : Int32)) ^^^ (46080 : Int32))]) (σ' := σ) [.iload_n 3, .ldc 170, .ixor, .istore_n 3, .iload_n 3] (by decide +kernel) hc hT hF wi (by exact rfl) ?_
    exact am_retI (by decide +kernel) hc (by decide) (by decide) (fun h W O => ⟨rfl, W, O⟩)
  · refine am_blk (pc' := 19) (Ls' := [.val (.ref 0), .val (.int x1), .val (.int (x1 &&& (1 : Int32))), .val (.int (XT.ushr x1 (1 : Int32)))]) (St' := [.int (XT.ushr x1 (1 : Int32))]) (σ' := σ) [.iload_n 3] (by decide +kernel) hc hT hF wi (by exact rfl) ?_
    exact am_retI (by decide +kernel) hc (by decide) (by decide) (fun h W O => ⟨rfl, W, O⟩)
abbrev rm_c_applyPattern : Room := { frames := 4, cells := 0, slots := 0, locals := 59 }
def c_applyPattern_78 (x1 : Int32) (σ : Sg) : Option Sg :=
  (c_lfsrStep (gi σ 0 18) (si σ 0 17 (x1 + (1 : Int32)))).bind fun r1 => some (si r1.2 0 18 r1.1)
set_option maxRecDepth 65536 in
set_option maxHeartbeats 4000000 in
theorem okc_c_applyPattern_78 (hw : WH a0 Z) (hc : Cx p s m meth c Z "LogicBist" prog_1_method_21_code 6 none "applyPattern") (x1 : Int32) (σ : Sg) : OkR p l e rm_c_applyPattern s m args below meth c Z "LogicBist" fsC n0 h0 (FM Z "LogicBist" fsC A wC h0 fV) A wC 0 0 78 [.val (.ref 0), .val (.int x1), .unset, .unset, .unset, .unset] [] σ (c_applyPattern_78 x1 σ) := by
  have hT := tabC hw "applyPattern"
  have hF := fsokC hw
  have wi := wiC hw
  unfold c_applyPattern_78
  refine am_blk (pc' := 91) (Ls' := [.val (.ref 0), .val (.int x1), .unset, .unset, .unset, .unset]) (St' := [.int (gi σ 0 18), .ref 0, .ref 0]) (σ' := si σ 0 17 (x1 + (1 : Int32))) [.aload_n 0, .iload_n 1, .iconst 1, .iadd, .putfield 72, .aload_n 0, .aload_n 0, .aload_n 0, .getfield 89] (by decide +kernel) hc hT hF wi (by exact rfl) ?_
  refine am_callP_I (W0 := 1) (argsL := [.int (gi σ 0 18)]) (rest := [.ref 0]) rfl (lk_C_137 hw) rfl wi (by decide +kernel) hc (SubW.refl _) rfl (by show arity "(I)I" 1 = true; decide +kernel) (ok_c_lfsrStep hw (gi σ 0 18) _) rfl ⟨by decide, by decide, Nat.le_of_eq rfl, rfl, rfl, by decide, by decide⟩ (fun r1 hr => ?_)
  refine am_blk (pc' := 97) (Ls' := [.val (.ref 0), .val (.int x1), .unset, .unset, .unset, .unset]) (St' := []) (σ' := si r1.2 0 18 r1.1) [.putfield 89] (by decide +kernel) hc hT hF wi (by exact rfl) ?_
  exact am_retV (by decide +kernel) hc (by decide) (by decide) (fun h W O => ⟨rfl, W, O⟩)
def c_applyPattern_44 : Nat → Int32 → Int32 → Int32 → Int32 → Int32 → Sg → Option Sg
  | 0, _, _, _, _, _, _ => none
  | fuel + 1, x1, x2, x3, x4, x5, σ =>
    if x5 < x4 then (if x5 < (2 : Int32) then ((c_evaluateGroup x2 x5 σ).bind fun r1 => (c_recordGroup x5 x3 x1 r1).bind fun r2 => c_applyPattern_44 fuel x1 x2 x3 x4 (x5 + (1 : Int32)) r2) else (c_applyPattern_78 x1 σ)) else (c_applyPattern_78 x1 σ)
set_option maxRecDepth 65536 in
set_option maxHeartbeats 4000000 in
theorem okc_c_applyPattern_44 (hw : WH a0 Z) (hc : Cx p s m meth c Z "LogicBist" prog_1_method_21_code 6 none "applyPattern") : ∀ (fuel : Nat) (x1 : Int32) (x2 : Int32) (x3 : Int32) (x4 : Int32) (x5 : Int32) (σ : Sg), OkR p l e rm_c_applyPattern s m args below meth c Z "LogicBist" fsC n0 h0 (FM Z "LogicBist" fsC A wC h0 fV) A wC 0 0 44 [.val (.ref 0), .val (.int x1), .val (.int x2), .val (.int x3), .val (.int x4), .val (.int x5)] [] σ (c_applyPattern_44 fuel x1 x2 x3 x4 x5 σ) := by
  have hT := tabC hw "applyPattern"
  have hF := fsokC hw
  have wi := wiC hw
  intro fuel
  induction fuel with
  | zero => intro x1 x2 x3 x4 x5 σ; exact am_none rfl
  | succ fuel ih =>
    intro x1 x2 x3 x4 x5 σ
    rw [c_applyPattern_44]
    refine am_blk (pc' := 48) (Ls' := [.val (.ref 0), .val (.int x1), .val (.int x2), .val (.int x3), .val (.int x4), .val (.int x5)]) (St' := [.int x4, .int x5]) (σ' := σ) [.iload 5, .iload 4] (by decide +kernel) hc hT hF wi (by exact rfl) ?_
    refine am_icmp_ge (o := 30) (pc1 := 78) (by decide +kernel) hc (fun hq => ?_) (fun hq => ?_)
    · refine am_blk (pc' := 54) (Ls' := [.val (.ref 0), .val (.int x1), .val (.int x2), .val (.int x3), .val (.int x4), .val (.int x5)]) (St' := [.int (2 : Int32), .int x5]) (σ' := σ) [.iload 5, .iconst 2] (by decide +kernel) hc hT hF wi (by exact rfl) ?_
      refine am_icmp_ge (o := 24) (pc1 := 78) (by decide +kernel) hc (fun hq => ?_) (fun hq => ?_)
      · refine am_blk (pc' := 61) (Ls' := [.val (.ref 0), .val (.int x1), .val (.int x2), .val (.int x3), .val (.int x4), .val (.int x5)]) (St' := [.int x5, .int x2, .ref 0]) (σ' := σ) [.aload_n 0, .iload_n 2, .iload 5] (by decide +kernel) hc hT hF wi (by exact rfl) ?_
        refine am_callP_V (W0 := 0) (argsL := [.int x2, .int x5]) (rest := []) rfl (lk_C_95 hw) rfl wi (by decide +kernel) hc (SubW.refl _) rfl (by show arity "(II)V" 2 = true; decide +kernel) (ok_c_evaluateGroup hw x2 x5 _) rfl ⟨by decide, by decide, Nat.le_of_eq rfl, rfl, rfl, by decide, by decide⟩ (fun r1 hr => ?_)
        refine am_blk (pc' := 69) (Ls' := [.val (.ref 0), .val (.int x1), .val (.int x2), .val (.int x3), .val (.int x4), .val (.int x5)]) (St' := [.int x1, .int x3, .int x5, .ref 0]) (σ' := r1) [.aload_n 0, .iload 5, .iload_n 3, .iload_n 1] (by decide +kernel) hc hT hF wi (by exact rfl) ?_
        refine am_callP_V (W0 := 0) (argsL := [.int x5, .int x3, .int x1]) (rest := []) rfl (lk_C_133 hw) rfl wi (by decide +kernel) hc (SubW.refl _) rfl (by show arity "(III)V" 3 = true; decide +kernel) (ok_c_recordGroup hw x5 x3 x1 _) rfl ⟨by decide, by decide, Nat.le_of_eq rfl, rfl, rfl, by decide, by decide⟩ (fun r2 hr => ?_)
        refine am_blk (pc' := 44) (Ls' := [.val (.ref 0), .val (.int x1), .val (.int x2), .val (.int x3), .val (.int x4), .val (.int (x5 + (1 : Int32)))]) (St' := []) (σ' := r2) [.iinc 5 1, .goto (-31)] (by decide +kernel) hc hT hF wi (by exact rfl) ?_
        exact am_wk (Ls' := [.val (.ref 0), .val (.int x1), .val (.int x2), .val (.int x3), .val (.int x4), .val (.int (x5 + (1 : Int32)))]) (by simp [wkL]) (ih x1 x2 x3 x4 (x5 + (1 : Int32)) r2)
      · exact am_wk (Ls' := [.val (.ref 0), .val (.int x1), .unset, .unset, .unset, .unset]) (by simp [wkL]) (okc_c_applyPattern_78 hw hc x1 σ)
    · exact am_wk (Ls' := [.val (.ref 0), .val (.int x1), .unset, .unset, .unset, .unset]) (by simp [wkL]) (okc_c_applyPattern_78 hw hc x1 σ)
def c_applyPattern (σ : Sg) : Option Sg :=
  (c_evaluateGroup (gi σ 0 18) (-1 : Int32) σ).bind fun r1 => (c_outputWordAt (0 : Int32) r1).bind fun r2 => (c_misrStep (gi r2.2 0 19) r2.1 r2.2).bind fun r3 => (c_groupCount (si r3.2 0 19 r3.1)).bind fun r4 => c_applyPattern_44 400 (gi σ 0 17) (gi σ 0 18) r2.1 r4.1 (0 : Int32) r4.2
set_option maxRecDepth 65536 in
set_option maxHeartbeats 4000000 in
theorem ok_c_applyPattern (hw : WH a0 Z) (σ : Sg) : ∀ x, c_applyPattern σ = some x → Con l Z "LogicBist" fsC (⟨"LogicBist", "applyPattern", "()V"⟩ : MethodName) prog_1_method_21_code 6 none rm_c_applyPattern wC [.ref 0] σ (fV x).1 (fV x).2 := by
  refine am_con pnC ?_
  intro p e s m below meth c A n0 h0 hc
  have hT := tabC hw "applyPattern"
  have hF := fsokC hw
  have wi := wiC hw
  unfold c_applyPattern
  refine am_blk (pc' := 13) (Ls' := [.val (.ref 0), .val (.int (gi σ 0 17)), .val (.int (gi σ 0 18)), .unset, .unset, .unset]) (St' := [.int (-1 : Int32), .int (gi σ 0 18), .ref 0]) (σ' := σ) [.aload_n 0, .getfield 72, .istore_n 1, .aload_n 0, .getfield 89, .istore_n 2, .aload_n 0, .iload_n 2, .iconst (-1)] (by decide +kernel) hc hT hF wi (by exact rfl) ?_
  refine am_callP_V (W0 := 0) (argsL := [.int (gi σ 0 18), .int (-1 : Int32)]) (rest := []) rfl (lk_C_95 hw) rfl wi (by decide +kernel) hc (SubW.refl _) rfl (by show arity "(II)V" 2 = true; decide +kernel) (ok_c_evaluateGroup hw (gi σ 0 18) (-1 : Int32) _) rfl ⟨by decide, by decide, Nat.le_of_eq rfl, rfl, rfl, by decide, by decide⟩ (fun r1 hr => ?_)
  refine am_blk (pc' := 18) (Ls' := [.val (.ref 0), .val (.int (gi σ 0 17)), .val (.int (gi σ 0 18)), .unset, .unset, .unset]) (St' := [.int (0 : Int32), .ref 0]) (σ' := r1) [.aload_n 0, .iconst 0] (by decide +kernel) hc hT hF wi (by exact rfl) ?_
  refine am_callP_I (W0 := 0) (argsL := [.int (0 : Int32)]) (rest := []) rfl (lk_C_99 hw) rfl wi (by decide +kernel) hc (SubW.refl _) rfl (by show arity "(I)I" 1 = true; decide +kernel) (ok_c_outputWordAt hw (0 : Int32) _) rfl ⟨by decide, by decide, Nat.le_of_eq rfl, rfl, rfl, by decide, by decide⟩ (fun r2 hr => ?_)
  refine am_blk (pc' := 29) (Ls' := [.val (.ref 0), .val (.int (gi σ 0 17)), .val (.int (gi σ 0 18)), .val (.int r2.1), .unset, .unset]) (St' := [.int r2.1, .int (gi r2.2 0 19), .ref 0, .ref 0]) (σ' := r2.2) [.istore_n 3, .aload_n 0, .aload_n 0, .aload_n 0, .getfield 112, .iload_n 3] (by decide +kernel) hc hT hF wi (by exact rfl) ?_
  refine am_callP_I (W0 := 1) (argsL := [.int (gi r2.2 0 19), .int r2.1]) (rest := [.ref 0]) rfl (lk_C_126 hw) rfl wi (by decide +kernel) hc (SubW.refl _) rfl (by show arity "(II)I" 2 = true; decide +kernel) (ok_c_misrStep hw (gi r2.2 0 19) r2.1 _) rfl ⟨by decide, by decide, Nat.le_of_eq rfl, rfl, rfl, by decide, by decide⟩ (fun r3 hr => ?_)
  refine am_blk (pc' := 36) (Ls' := [.val (.ref 0), .val (.int (gi σ 0 17)), .val (.int (gi σ 0 18)), .val (.int r2.1), .unset, .unset]) (St' := [.ref 0]) (σ' := si r3.2 0 19 r3.1) [.putfield 112, .aload_n 0] (by decide +kernel) hc hT hF wi (by exact rfl) ?_
  refine am_callP_I (W0 := 0) (argsL := []) (rest := []) rfl (lk_C_130 hw) rfl wi (by decide +kernel) hc (SubW.refl _) rfl (by show arity "()I" 0 = true; decide +kernel) (ok_c_groupCount hw _) rfl ⟨by decide, by decide, Nat.le_of_eq rfl, rfl, rfl, by decide, by decide⟩ (fun r4 hr => ?_)
  refine am_blk (pc' := 44) (Ls' := [.val (.ref 0), .val (.int (gi σ 0 17)), .val (.int (gi σ 0 18)), .val (.int r2.1), .val (.int r4.1), .val (.int (0 : Int32))]) (St' := []) (σ' := r4.2) [.istore 4, .iconst 0, .istore 5] (by decide +kernel) hc hT hF wi (by exact rfl) ?_
  exact am_wk (Ls' := [.val (.ref 0), .val (.int (gi σ 0 17)), .val (.int (gi σ 0 18)), .val (.int r2.1), .val (.int r4.1), .val (.int (0 : Int32))]) (by simp [wkL]) (okc_c_applyPattern_44 hw hc 400 (gi σ 0 17) (gi σ 0 18) r2.1 r4.1 (0 : Int32) r4.2)
abbrev rm_c_run : Room := { frames := 5, cells := 0, slots := 0, locals := 76 }
def c_run_24 : Nat → Int32 → Int32 → Sg → Option (Int32 × Sg)
  | 0, _, _, _ => none
  | fuel + 1, x1, x2, σ =>
    if x2 < x1 then (if x2 < (64 : Int32) then ((c_applyPattern σ).bind fun r1 => c_run_24 fuel x1 (x2 + (1 : Int32)) r1) else (some (gi σ 0 17, σ))) else (some (gi σ 0 17, σ))
set_option maxRecDepth 65536 in
set_option maxHeartbeats 4000000 in
theorem okc_c_run_24 (hw : WH a0 Z) (hc : Cx p s m meth c Z "LogicBist" prog_1_method_6_code 3 (some .int) "run") : ∀ (fuel : Nat) (x1 : Int32) (x2 : Int32) (σ : Sg), OkR p l e rm_c_run s m args below meth c Z "LogicBist" fsC n0 h0 (FM Z "LogicBist" fsC A wC h0 fI) A wC 0 0 24 [.val (.ref 0), .val (.int x1), .val (.int x2)] [] σ (c_run_24 fuel x1 x2 σ) := by
  have hT := tabC hw "run"
  have hF := fsokC hw
  have wi := wiC hw
  intro fuel
  induction fuel with
  | zero => intro x1 x2 σ; exact am_none rfl
  | succ fuel ih =>
    intro x1 x2 σ
    rw [c_run_24]
    refine am_blk (pc' := 26) (Ls' := [.val (.ref 0), .val (.int x1), .val (.int x2)]) (St' := [.int x1, .int x2]) (σ' := σ) [.iload_n 2, .iload_n 1] (by decide +kernel) hc hT hF wi (by exact rfl) ?_
    refine am_icmp_ge (o := 19) (pc1 := 45) (by decide +kernel) hc (fun hq => ?_) (fun hq => ?_)
    · refine am_blk (pc' := 32) (Ls' := [.val (.ref 0), .val (.int x1), .val (.int x2)]) (St' := [.int (64 : Int32), .int x2]) (σ' := σ) [.iload_n 2, .bipush 64] (by decide +kernel) hc hT hF wi (by exact rfl) ?_
      refine am_icmp_ge (o := 13) (pc1 := 45) (by decide +kernel) hc (fun hq => ?_) (fun hq => ?_)
      · refine am_blk (pc' := 36) (Ls' := [.val (.ref 0), .val (.int x1), .val (.int x2)]) (St' := [.ref 0]) (σ' := σ) [.aload_n 0] (by decide +kernel) hc hT hF wi (by exact rfl) ?_
        refine am_callP_V (W0 := 0) (argsL := []) (rest := []) rfl (lk_C_92 hw) rfl wi (by decide +kernel) hc (SubW.refl _) rfl (by show arity "()V" 0 = true; decide +kernel) (ok_c_applyPattern hw _) rfl ⟨by decide, by decide, Nat.le_of_eq rfl, rfl, rfl, by decide, by decide⟩ (fun r1 hr => ?_)
        refine am_blk (pc' := 24) (Ls' := [.val (.ref 0), .val (.int x1), .val (.int (x2 + (1 : Int32)))]) (St' := []) (σ' := r1) [.iinc 2 1, .goto (-18)] (by decide +kernel) hc hT hF wi (by exact rfl) ?_
        exact am_wk (Ls' := [.val (.ref 0), .val (.int x1), .val (.int (x2 + (1 : Int32)))]) (by simp [wkL]) (ih x1 (x2 + (1 : Int32)) r1)
      · refine am_blk (pc' := 49) (Ls' := [.val (.ref 0), .val (.int x1), .val (.int x2)]) (St' := [.int (gi σ 0 17)]) (σ' := σ) [.aload_n 0, .getfield 72] (by decide +kernel) hc hT hF wi (by exact rfl) ?_
        exact am_retI (by decide +kernel) hc (by decide) (by decide) (fun h W O => ⟨rfl, W, O⟩)
    · refine am_blk (pc' := 49) (Ls' := [.val (.ref 0), .val (.int x1), .val (.int x2)]) (St' := [.int (gi σ 0 17)]) (σ' := σ) [.aload_n 0, .getfield 72] (by decide +kernel) hc hT hF wi (by exact rfl) ?_
      exact am_retI (by decide +kernel) hc (by decide) (by decide) (fun h W O => ⟨rfl, W, O⟩)
def c_run (x1 : Int32) (σ : Sg) : Option (Int32 × Sg) :=
  if x1 < (1 : Int32) then (some ((-1 : Int32), σ)) else (if (64 : Int32) < x1 then (some ((-1 : Int32), σ)) else (if (gi σ 0 14) = 0 then (some ((-1 : Int32), σ)) else (c_run_24 400 x1 (0 : Int32) σ)))
set_option maxRecDepth 65536 in
set_option maxHeartbeats 4000000 in
theorem ok_c_run (hw : WH a0 Z) (x1 : Int32) (σ : Sg) : ∀ x, c_run x1 σ = some x → Con l Z "LogicBist" fsC (⟨"LogicBist", "run", "(I)I"⟩ : MethodName) prog_1_method_6_code 3 (some .int) rm_c_run wC [.ref 0, .int x1] σ (fI x).1 (fI x).2 := by
  refine am_con pnC ?_
  intro p e s m below meth c A n0 h0 hc
  have hT := tabC hw "run"
  have hF := fsokC hw
  have wi := wiC hw
  unfold c_run
  refine am_blk (pc' := 2) (Ls' := [.val (.ref 0), .val (.int x1), .unset]) (St' := [.int (1 : Int32), .int x1]) (σ' := σ) [.iload_n 1, .iconst 1] (by decide +kernel) hc hT hF wi (by exact rfl) ?_
  refine am_icmp_lt (o := 9) (pc1 := 11) (by decide +kernel) hc (fun hq => ?_) (fun hq => ?_)
  · refine am_blk (pc' := 12) (Ls' := [.val (.ref 0), .val (.int x1), .unset]) (St' := [.int (-1 : Int32)]) (σ' := σ) [.iconst (-1)] (by decide +kernel) hc hT hF wi (by exact rfl) ?_
    exact am_retI (by decide +kernel) hc (by decide) (by decide) (fun h W O => ⟨rfl, W, O⟩)
  · refine am_blk (pc' := 8) (Ls' := [.val (.ref 0), .val (.int x1), .unset]) (St' := [.int (64 : Int32), .int x1]) (σ' := σ) [.iload_n 1, .bipush 64] (by decide +kernel) hc hT hF wi (by exact rfl) ?_
    refine am_icmp_le (o := 5) (pc1 := 13) (by decide +kernel) hc (fun hq => ?_) (fun hq => ?_)
    · refine am_blk (pc' := 12) (Ls' := [.val (.ref 0), .val (.int x1), .unset]) (St' := [.int (-1 : Int32)]) (σ' := σ) [.iconst (-1)] (by decide +kernel) hc hT hF wi (by exact rfl) ?_
      exact am_retI (by decide +kernel) hc (by decide) (by decide) (fun h W O => ⟨rfl, W, O⟩)
    · refine am_blk (pc' := 17) (Ls' := [.val (.ref 0), .val (.int x1), .unset]) (St' := [.int (gi σ 0 14)]) (σ' := σ) [.aload_n 0, .getfield 59] (by decide +kernel) hc hT hF wi (by exact rfl) ?_
      refine am_if_ne (o := 5) (pc1 := 22) (by decide +kernel) hc (fun hq => ?_) (fun hq => ?_)
      · refine am_blk (pc' := 21) (Ls' := [.val (.ref 0), .val (.int x1), .unset]) (St' := [.int (-1 : Int32)]) (σ' := σ) [.iconst (-1)] (by decide +kernel) hc hT hF wi (by exact rfl) ?_
        exact am_retI (by decide +kernel) hc (by decide) (by decide) (fun h W O => ⟨rfl, W, O⟩)
      · refine am_blk (pc' := 24) (Ls' := [.val (.ref 0), .val (.int x1), .val (.int (0 : Int32))]) (St' := []) (σ' := σ) [.iconst 0, .istore_n 2] (by decide +kernel) hc hT hF wi (by exact rfl) ?_
        exact am_wk (Ls' := [.val (.ref 0), .val (.int x1), .val (.int (0 : Int32))]) (by simp [wkL]) (okc_c_run_24 hw hc 400 x1 (0 : Int32) σ)
abbrev rm_c_restart : Room := { frames := 2, cells := 0, slots := 0, locals := 26 }
def c_restart (σ : Sg) : Option Sg :=
  (c_clearSession σ).bind fun r1 => some r1
set_option maxRecDepth 65536 in
set_option maxHeartbeats 4000000 in
theorem ok_c_restart (hw : WH a0 Z) (σ : Sg) : ∀ x, c_restart σ = some x → Con l Z "LogicBist" fsC (⟨"LogicBist", "restart", "()V"⟩ : MethodName) prog_1_method_7_code 1 none rm_c_restart wC [.ref 0] σ (fV x).1 (fV x).2 := by
  refine am_con pnC ?_
  intro p e s m below meth c A n0 h0 hc
  have hT := tabC hw "restart"
  have hF := fsokC hw
  have wi := wiC hw
  unfold c_restart
  refine am_blk (pc' := 1) (Ls' := [.val (.ref 0)]) (St' := [.ref 0]) (σ' := σ) [.aload_n 0] (by decide +kernel) hc hT hF wi (by exact rfl) ?_
  refine am_callP_V (W0 := 0) (argsL := []) (rest := []) rfl (lk_C_69 hw) rfl wi (by decide +kernel) hc (SubW.refl _) rfl (by show arity "()V" 0 = true; decide +kernel) (ok_c_clearSession hw _) rfl ⟨by decide, by decide, Nat.le_of_eq rfl, rfl, rfl, by decide, by decide⟩ (fun r1 hr => ?_)
  exact am_retV (by decide +kernel) hc (by decide) (by decide) (fun h W O => ⟨rfl, W, O⟩)
abbrev rm_c_setSeed : Room := { frames := 0, cells := 0, slots := 0, locals := 0 }
def c_setSeed (x1 : Int32) (σ : Sg) : Option (Int32 × Sg) :=
  if 0 < (gi σ 0 17) then (some ((0 : Int32), σ)) else (if (x1 &&& (65535 : Int32)) = 0 then (some ((0 : Int32), σ)) else (some ((1 : Int32), si (si σ 0 15 (x1 &&& (65535 : Int32))) 0 18 (x1 &&& (65535 : Int32)))))
set_option maxRecDepth 65536 in
set_option maxHeartbeats 4000000 in
theorem ok_c_setSeed (hw : WH a0 Z) (x1 : Int32) (σ : Sg) : ∀ x, c_setSeed x1 σ = some x → Con l Z "LogicBist" fsC (⟨"LogicBist", "setSeed", "(I)Z"⟩ : MethodName) prog_1_method_4_code 3 (some .boolean) rm_c_setSeed wC [.ref 0, .int x1] σ (fI x).1 (fI x).2 := by
  refine am_con pnC ?_
  intro p e s m below meth c A n0 h0 hc
  have hT := tabC hw "setSeed"
  have hF := fsokC hw
  have wi := wiC hw
  unfold c_setSeed
  refine am_blk (pc' := 4) (Ls' := [.val (.ref 0), .val (.int x1), .unset]) (St' := [.int (gi σ 0 17)]) (σ' := σ) [.aload_n 0, .getfield 72] (by decide +kernel) hc hT hF wi (by exact rfl) ?_
  refine am_if_le (o := 5) (pc1 := 9) (by decide +kernel) hc (fun hq => ?_) (fun hq => ?_)
  · refine am_blk (pc' := 8) (Ls' := [.val (.ref 0), .val (.int x1), .unset]) (St' := [.int (0 : Int32)]) (σ' := σ) [.iconst 0] (by decide +kernel) hc hT hF wi (by exact rfl) ?_
    exact am_retZ (by decide +kernel) hc (by decide) (by decide) (fun h W O => ⟨rfl, W, O⟩)
  · refine am_blk (pc' := 15) (Ls' := [.val (.ref 0), .val (.int x1), .val (.int (x1 &&& (65535 : Int32)))]) (St' := [.int (x1 &&& (65535 : Int32))]) (σ' := σ) [.iload_n 1, .ldc 88, .iand, .istore_n 2, .iload_n 2] (by decide +kernel) hc hT hF wi (by exact rfl) ?_
    refine am_if_ne (o := 5) (pc1 := 20) (by decide +kernel) hc (fun hq => ?_) (fun hq => ?_)
    · refine am_blk (pc' := 19) (Ls' := [.val (.ref 0), .val (.int x1), .val (.int (x1 &&& (65535 : Int32)))]) (St' := [.int (0 : Int32)]) (σ' := σ) [.iconst 0] (by decide +kernel) hc hT hF wi (by exact rfl) ?_
      exact am_retZ (by decide +kernel) hc (by decide) (by decide) (fun h W O => ⟨rfl, W, O⟩)
    · refine am_blk (pc' := 31) (Ls' := [.val (.ref 0), .val (.int x1), .val (.int (x1 &&& (65535 : Int32)))]) (St' := [.int (1 : Int32)]) (σ' := si (si σ 0 15 (x1 &&& (65535 : Int32))) 0 18 (x1 &&& (65535 : Int32))) [.aload_n 0, .iload_n 2, .putfield 63, .aload_n 0, .iload_n 2, .putfield 89, .iconst 1] (by decide +kernel) hc hT hF wi (by exact rfl) ?_
      exact am_retZ (by decide +kernel) hc (by decide) (by decide) (fun h W O => ⟨rfl, W, O⟩)
abbrev rm_c_setMisrMask : Room := { frames := 0, cells := 0, slots := 0, locals := 0 }
def c_setMisrMask (x1 : Int32) (σ : Sg) : Option (Int32 × Sg) :=
  if 0 < (gi σ 0 17) then (some ((0 : Int32), σ)) else (some ((1 : Int32), si σ 0 16 (x1 &&& (gi σ 0 12))))
set_option maxRecDepth 65536 in
set_option maxHeartbeats 4000000 in
theorem ok_c_setMisrMask (hw : WH a0 Z) (x1 : Int32) (σ : Sg) : ∀ x, c_setMisrMask x1 σ = some x → Con l Z "LogicBist" fsC (⟨"LogicBist", "setMisrMask", "(I)Z"⟩ : MethodName) prog_1_method_5_code 2 (some .boolean) rm_c_setMisrMask wC [.ref 0, .int x1] σ (fI x).1 (fI x).2 := by
  refine am_con pnC ?_
  intro p e s m below meth c A n0 h0 hc
  have hT := tabC hw "setMisrMask"
  have hF := fsokC hw
  have wi := wiC hw
  unfold c_setMisrMask
  refine am_blk (pc' := 4) (Ls' := [.val (.ref 0), .val (.int x1)]) (St' := [.int (gi σ 0 17)]) (σ' := σ) [.aload_n 0, .getfield 72] (by decide +kernel) hc hT hF wi (by exact rfl) ?_
  refine am_if_le (o := 5) (pc1 := 9) (by decide +kernel) hc (fun hq => ?_) (fun hq => ?_)
  · refine am_blk (pc' := 8) (Ls' := [.val (.ref 0), .val (.int x1)]) (St' := [.int (0 : Int32)]) (σ' := σ) [.iconst 0] (by decide +kernel) hc hT hF wi (by exact rfl) ?_
    exact am_retZ (by decide +kernel) hc (by decide) (by decide) (fun h W O => ⟨rfl, W, O⟩)
  · refine am_blk (pc' := 20) (Ls' := [.val (.ref 0), .val (.int x1)]) (St' := [.int (1 : Int32)]) (σ' := si σ 0 16 (x1 &&& (gi σ 0 12))) [.aload_n 0, .iload_n 1, .aload_n 0, .getfield 53, .iand, .putfield 66, .iconst 1] (by decide +kernel) hc hT hF wi (by exact rfl) ?_
    exact am_retZ (by decide +kernel) hc (by decide) (by decide) (fun h W O => ⟨rfl, W, O⟩)
abbrev rm_q_law : Room := room_1
def q_law_397 (sn : Nat) (sf : Nat → Int32) (k254 : Int32 → Int32 → Int32 → Int32 → Int32 → Int32 → Int32 → Int32 → Int32 → Sg → Option (Int32 × Sg)) (x2 : Int32) (x5 : Int32) (x8 : Int32) (x9 : Int32) (x10 : Int32) (x11 : Int32) (x12 : Int32) (x13 : Int32) (x14 : Int32) (σ : Sg) : Option (Int32 × Sg) :=
  (q_check x9 x10 x2 x11 x12 σ).bind fun r1 => if r1.1 = 0 then (some ((0 : Int32), r1.2)) else (k254 x2 x5 x8 x9 x10 x11 x12 x13 (x14 + (1 : Int32)) r1.2)
set_option maxRecDepth 65536 in
set_option maxHeartbeats 4000000 in
theorem okc_q_law_397 (hw : WH a0 Z) (hc : Cx p s m meth c Z "LogicBistOwnLaw" code 18 (some .boolean) "law") (hw0 : Rd w0 9) (hsc : w0 99 = some (.inr (.int, sn, some sf))) (hn : n0 ≤ h0.size) (k254 : Int32 → Int32 → Int32 → Int32 → Int32 → Int32 → Int32 → Int32 → Int32 → Sg → Option (Int32 × Sg)) (hk254 : ∀ (x2 : Int32) (x5 : Int32) (x8 : Int32) (x9 : Int32) (x10 : Int32) (x11 : Int32) (x12 : Int32) (x13 : Int32) (x14 : Int32) (σ : Sg), OkR p l e rm_q_law s m args below meth c Z "LogicBist" fsC n0 h0 FL A (wF arrsC w0) 10 444 254 [.val (.ref 99), .unset, .val (.int x2), .unset, .val (.ref 0), .val (.int x5), .unset, .unset, .val (.int x8), .val (.int x9), .val (.int x10), .val (.int x11), .val (.int x12), .val (.int x13), .val (.int x14), .unset, .unset, .unset] [] σ (k254 x2 x5 x8 x9 x10 x11 x12 x13 x14 σ)) (x2 : Int32) (x5 : Int32) (x8 : Int32) (x9 : Int32) (x10 : Int32) (x11 : Int32) (x12 : Int32) (x13 : Int32) (x14 : Int32) (σ : Sg) : OkR p l e rm_q_law s m args below meth c Z "LogicBist" fsC n0 h0 FL A (wF arrsC w0) 10 444 397 [.val (.ref 99), .unset, .val (.int x2), .unset, .val (.ref 0), .val (.int x5), .unset, .unset, .val (.int x8), .val (.int x9), .val (.int x10), .val (.int x11), .val (.int x12), .val (.int x13), .val (.int x14), .unset, .unset, .unset] [] σ (q_law_397 sn sf k254 x2 x5 x8 x9 x10 x11 x12 x13 x14 σ) := by
  have hT := tabL hw "law"
  have hF := fsokC hw
  have wi := wiC hw
  unfold q_law_397
  refine am_blk (pc' := 408) (Ls' := [.val (.ref 99), .unset, .val (.int x2), .unset, .val (.ref 0), .val (.int x5), .unset, .unset, .val (.int x8), .val (.int x9), .val (.int x10), .val (.int x11), .val (.int x12), .val (.int x13), .val (.int x14), .unset, .unset, .unset]) (St' := [.int x12, .int x11, .int x2, .int x10, .int x9, .ref 0]) (σ' := σ) [.aload 4, .iload 9, .iload 10, .iload_n 2, .iload 11, .iload 12] (by decide +kernel) hc hT hF wi (by exact rfl) ?_
  refine am_callS_I (W0 := 0) (argsL := [.ref 0, .int x9, .int x10, .int x2, .int x11, .int x12]) (rest := []) (lk_L_66 hw) (by decide +kernel) hc (subF hw0) rfl (by show arity "(LLogicBist;IIIII)Z" 6 = true; decide +kernel) (ok_q_check hw x9 x10 x2 x11 x12 _) rfl ⟨by decide, by decide, Nat.le_of_eq rfl, rfl, rfl, by decide, by decide⟩ (fun r1 hr => ?_)
  refine am_if_ne (o := 5) (pc1 := 416) (by decide +kernel) hc (fun hq => ?_) (fun hq => ?_)
  · refine am_blk (pc' := 415) (Ls' := [.val (.ref 99), .unset, .val (.int x2), .unset, .val (.ref 0), .val (.int x5), .unset, .unset, .val (.int x8), .val (.int x9), .val (.int x10), .val (.int x11), .val (.int x12), .val (.int x13), .val (.int x14), .unset, .unset, .unset]) (St' := [.int (0 : Int32)]) (σ' := r1.2) [.iconst 0] (by decide +kernel) hc hT hF wi (by exact rfl) ?_
    exact am_retZ (by decide +kernel) hc (by decide) (by decide) (fun h W O => rfl)
  · refine am_blk (pc' := 254) (Ls' := [.val (.ref 99), .unset, .val (.int x2), .unset, .val (.ref 0), .val (.int x5), .unset, .unset, .val (.int x8), .val (.int x9), .val (.int x10), .val (.int x11), .val (.int x12), .val (.int x13), .val (.int (x14 + (1 : Int32))), .unset, .unset, .unset]) (St' := []) (σ' := r1.2) [.iinc 14 1, .goto (-165)] (by decide +kernel) hc hT hF wi (by exact rfl) ?_
    exact am_wk (Ls' := [.val (.ref 99), .unset, .val (.int x2), .unset, .val (.ref 0), .val (.int x5), .unset, .unset, .val (.int x8), .val (.int x9), .val (.int x10), .val (.int x11), .val (.int x12), .val (.int x13), .val (.int (x14 + (1 : Int32))), .unset, .unset, .unset]) (by simp [wkL]) (hk254 x2 x5 x8 x9 x10 x11 x12 x13 (x14 + (1 : Int32)) r1.2)
def q_law_254 (sn : Nat) (sf : Nat → Int32) : Nat → Int32 → Int32 → Int32 → Int32 → Int32 → Int32 → Int32 → Int32 → Int32 → Sg → Option (Int32 × Sg)
  | 0, _, _, _, _, _, _, _, _, _, _ => none
  | fuel + 1, x2, x5, x8, x9, x10, x11, x12, x13, x14, σ =>
    if x14 < x13 then ((q_cell sn sf x5 σ).bind fun r1 => (q_pos r1.1 r1.2).bind fun r2 => if (5 : Int32) = 0 then none else ((q_cell sn sf (x5 + (1 : Int32)) r2.2).bind fun r3 => if (1 : Int32) < (r2.1 % (5 : Int32)) then (if (r2.1 % (5 : Int32)) = (2 : Int32) then ((c_restart r3.2).bind fun r4 => q_law_397 sn sf (q_law_254 sn sf fuel) x2 (x5 + (2 : Int32)) x8 x9 x10 (0 : Int32) x12 x13 x14 r4) else (if (r2.1 % (5 : Int32)) = (3 : Int32) then ((c_setSeed r3.1 r3.2).bind fun r5 => if x11 = 0 then (if (r3.1 &&& (65535 : Int32)) = 0 then (q_law_397 sn sf (q_law_254 sn sf fuel) x2 (x5 + (2 : Int32)) x8 x9 x10 x11 x12 x13 x14 r5.2) else (q_law_397 sn sf (q_law_254 sn sf fuel) x2 (x5 + (2 : Int32)) x8 (r3.1 &&& (65535 : Int32)) x10 x11 x12 x13 x14 r5.2)) else (q_law_397 sn sf (q_law_254 sn sf fuel) x2 (x5 + (2 : Int32)) x8 x9 x10 x11 x12 x13 x14 r5.2)) else ((c_setMisrMask r3.1 r3.2).bind fun r6 => if x11 = 0 then (q_law_397 sn sf (q_law_254 sn sf fuel) x2 (x5 + (2 : Int32)) x8 x9 (r3.1 &&& x8) x11 x12 x13 x14 r6.2) else (q_law_397 sn sf (q_law_254 sn sf fuel) x2 (x5 + (2 : Int32)) x8 x9 x10 x11 x12 x13 x14 r6.2)))) else ((q_pos r3.1 r3.2).bind fun r7 => if (64 : Int32) = 0 then none else ((c_run ((r7.1 % (64 : Int32)) + (1 : Int32)) r7.2).bind fun r8 => q_law_397 sn sf (q_law_254 sn sf fuel) x2 (x5 + (2 : Int32)) x8 x9 x10 (x11 + ((r7.1 % (64 : Int32)) + (1 : Int32))) x12 x13 x14 r8.2)))) else (some ((1 : Int32), σ))
set_option maxRecDepth 65536 in
set_option maxHeartbeats 4000000 in
theorem okc_q_law_254 (hw : WH a0 Z) (hc : Cx p s m meth c Z "LogicBistOwnLaw" code 18 (some .boolean) "law") (hw0 : Rd w0 9) (hsc : w0 99 = some (.inr (.int, sn, some sf))) (hn : n0 ≤ h0.size) : ∀ (fuel : Nat) (x2 : Int32) (x5 : Int32) (x8 : Int32) (x9 : Int32) (x10 : Int32) (x11 : Int32) (x12 : Int32) (x13 : Int32) (x14 : Int32) (σ : Sg), OkR p l e rm_q_law s m args below meth c Z "LogicBist" fsC n0 h0 FL A (wF arrsC w0) 10 444 254 [.val (.ref 99), .unset, .val (.int x2), .unset, .val (.ref 0), .val (.int x5), .unset, .unset, .val (.int x8), .val (.int x9), .val (.int x10), .val (.int x11), .val (.int x12), .val (.int x13), .val (.int x14), .unset, .unset, .unset] [] σ (q_law_254 sn sf fuel x2 x5 x8 x9 x10 x11 x12 x13 x14 σ) := by
  have hT := tabL hw "law"
  have hF := fsokC hw
  have wi := wiC hw
  intro fuel
  induction fuel with
  | zero => intro x2 x5 x8 x9 x10 x11 x12 x13 x14 σ; exact am_none rfl
  | succ fuel ih =>
    intro x2 x5 x8 x9 x10 x11 x12 x13 x14 σ
    rw [q_law_254]
    refine am_blk (pc' := 258) (Ls' := [.val (.ref 99), .unset, .val (.int x2), .unset, .val (.ref 0), .val (.int x5), .unset, .unset, .val (.int x8), .val (.int x9), .val (.int x10), .val (.int x11), .val (.int x12), .val (.int x13), .val (.int x14), .unset, .unset, .unset]) (St' := [.int x13, .int x14]) (σ' := σ) [.iload 14, .iload 13] (by decide +kernel) hc hT hF wi (by exact rfl) ?_
    refine am_icmp_ge (o := 164) (pc1 := 422) (by decide +kernel) hc (fun hq => ?_) (fun hq => ?_)
    · refine am_blk (pc' := 264) (Ls' := [.val (.ref 99), .unset, .val (.int x2), .unset, .val (.ref 0), .val (.int x5), .unset, .unset, .val (.int x8), .val (.int x9), .val (.int x10), .val (.int x11), .val (.int x12), .val (.int x13), .val (.int x14), .unset, .unset, .unset]) (St' := [.int x5, .ref 99]) (σ' := σ) [.aload_n 0, .iload 5] (by decide +kernel) hc hT hF wi (by exact rfl) ?_
      refine am_callS_I (W0 := 0) (argsL := [.ref 99, .int x5]) (rest := []) (lk_L_48 hw) (by decide +kernel) hc (SubW.refl _) rfl (by show arity "([II)I" 2 = true; decide +kernel) (ok_q_cell (w := (wF arrsC w0)) hw hsc x5 _) rfl ⟨by decide, by decide, Nat.le_of_eq rfl, rfl, rfl, by decide, by decide⟩ (fun r1 hr => ?_)
      refine am_callS_I (W0 := 0) (argsL := [.int r1.1]) (rest := []) (lk_L_52 hw) (by decide +kernel) hc (SubW.refl _) rfl (by show arity "(I)I" 1 = true; decide +kernel) (ok_q_pos hw r1.1 _) rfl ⟨by decide, by decide, Nat.le_of_eq rfl, rfl, rfl, by decide, by decide⟩ (fun r2 hr => ?_)
      refine am_blk (pc' := 271) (Ls' := [.val (.ref 99), .unset, .val (.int x2), .unset, .val (.ref 0), .val (.int x5), .unset, .unset, .val (.int x8), .val (.int x9), .val (.int x10), .val (.int x11), .val (.int x12), .val (.int x13), .val (.int x14), .unset, .unset, .unset]) (St' := [.int (5 : Int32), .int r2.1]) (σ' := r2.2) [.iconst 5] (by decide +kernel) hc hT hF wi (by exact rfl) ?_
      refine am_irem (by decide +kernel) hc (fun hy => ?_)
      refine am_blk (pc' := 279) (Ls' := [.val (.ref 99), .unset, .val (.int x2), .unset, .val (.ref 0), .val (.int x5), .unset, .unset, .val (.int x8), .val (.int x9), .val (.int x10), .val (.int x11), .val (.int x12), .val (.int x13), .val (.int x14), .val (.int (r2.1 % (5 : Int32))), .unset, .unset]) (St' := [.int (x5 + (1 : Int32)), .ref 99]) (σ' := r2.2) [.istore 15, .aload_n 0, .iload 5, .iconst 1, .iadd] (by decide +kernel) hc hT hF wi (by exact rfl) ?_
      refine am_callS_I (W0 := 0) (argsL := [.ref 99, .int (x5 + (1 : Int32))]) (rest := []) (lk_L_48 hw) (by decide +kernel) hc (SubW.refl _) rfl (by show arity "([II)I" 2 = true; decide +kernel) (ok_q_cell (w := (wF arrsC w0)) hw hsc (x5 + (1 : Int32)) _) rfl ⟨by decide, by decide, Nat.le_of_eq rfl, rfl, rfl, by decide, by decide⟩ (fun r3 hr => ?_)
      refine am_blk (pc' := 290) (Ls' := [.val (.ref 99), .unset, .val (.int x2), .unset, .val (.ref 0), .val (.int (x5 + (2 : Int32))), .unset, .unset, .val (.int x8), .val (.int x9), .val (.int x10), .val (.int x11), .val (.int x12), .val (.int x13), .val (.int x14), .val (.int (r2.1 % (5 : Int32))), .val (.int r3.1), .unset]) (St' := [.int (1 : Int32), .int (r2.1 % (5 : Int32))]) (σ' := r3.2) [.istore 16, .iinc 5 2, .iload 15, .iconst 1] (by decide +kernel) hc hT hF wi (by exact rfl) ?_
      refine am_icmp_gt (o := 33) (pc1 := 323) (by decide +kernel) hc (fun hq => ?_) (fun hq => ?_)
      · refine am_blk (pc' := 326) (Ls' := [.val (.ref 99), .unset, .val (.int x2), .unset, .val (.ref 0), .val (.int (x5 + (2 : Int32))), .unset, .unset, .val (.int x8), .val (.int x9), .val (.int x10), .val (.int x11), .val (.int x12), .val (.int x13), .val (.int x14), .val (.int (r2.1 % (5 : Int32))), .val (.int r3.1), .unset]) (St' := [.int (2 : Int32), .int (r2.1 % (5 : Int32))]) (σ' := r3.2) [.iload 15, .iconst 2] (by decide +kernel) hc hT hF wi (by exact rfl) ?_
        refine am_icmp_ne (o := 14) (pc1 := 340) (by decide +kernel) hc (fun hq => ?_) (fun hq => ?_)
        · refine am_blk (pc' := 331) (Ls' := [.val (.ref 99), .unset, .val (.int x2), .unset, .val (.ref 0), .val (.int (x5 + (2 : Int32))), .unset, .unset, .val (.int x8), .val (.int x9), .val (.int x10), .val (.int x11), .val (.int x12), .val (.int x13), .val (.int x14), .val (.int (r2.1 % (5 : Int32))), .val (.int r3.1), .unset]) (St' := [.ref 0]) (σ' := r3.2) [.aload 4] (by decide +kernel) hc hT hF wi (by exact rfl) ?_
          refine am_callV_V (W0 := 0) (argsL := []) (rest := []) rfl (lk_L_73 hw) rfl (by decide +kernel) hc (subF hw0) rfl (by show arity "()V" 0 = true; decide +kernel) (ok_c_restart hw _) rfl ⟨by decide, by decide, Nat.le_of_eq rfl, rfl, rfl, by decide, by decide⟩ (fun r4 hr => ?_)
          refine am_blk (pc' := 397) (Ls' := [.val (.ref 99), .unset, .val (.int x2), .unset, .val (.ref 0), .val (.int (x5 + (2 : Int32))), .unset, .unset, .val (.int x8), .val (.int x9), .val (.int x10), .val (.int (0 : Int32)), .val (.int x12), .val (.int x13), .val (.int x14), .val (.int (r2.1 % (5 : Int32))), .val (.int r3.1), .unset]) (St' := []) (σ' := r4) [.iconst 0, .istore 11, .goto 60] (by decide +kernel) hc hT hF wi (by exact rfl) ?_
          exact am_wk (Ls' := [.val (.ref 99), .unset, .val (.int x2), .unset, .val (.ref 0), .val (.int (x5 + (2 : Int32))), .unset, .unset, .val (.int x8), .val (.int x9), .val (.int x10), .val (.int (0 : Int32)), .val (.int x12), .val (.int x13), .val (.int x14), .unset, .unset, .unset]) (by simp [wkL]) (okc_q_law_397 hw hc hw0 hsc hn _ ih x2 (x5 + (2 : Int32)) x8 x9 x10 (0 : Int32) x12 x13 x14 r4)
        · refine am_blk (pc' := 343) (Ls' := [.val (.ref 99), .unset, .val (.int x2), .unset, .val (.ref 0), .val (.int (x5 + (2 : Int32))), .unset, .unset, .val (.int x8), .val (.int x9), .val (.int x10), .val (.int x11), .val (.int x12), .val (.int x13), .val (.int x14), .val (.int (r2.1 % (5 : Int32))), .val (.int r3.1), .unset]) (St' := [.int (3 : Int32), .int (r2.1 % (5 : Int32))]) (σ' := r3.2) [.iload 15, .iconst 3] (by decide +kernel) hc hT hF wi (by exact rfl) ?_
          refine am_icmp_ne (o := 34) (pc1 := 377) (by decide +kernel) hc (fun hq => ?_) (fun hq => ?_)
          · refine am_blk (pc' := 350) (Ls' := [.val (.ref 99), .unset, .val (.int x2), .unset, .val (.ref 0), .val (.int (x5 + (2 : Int32))), .unset, .unset, .val (.int x8), .val (.int x9), .val (.int x10), .val (.int x11), .val (.int x12), .val (.int x13), .val (.int x14), .val (.int (r2.1 % (5 : Int32))), .val (.int r3.1), .unset]) (St' := [.int r3.1, .ref 0]) (σ' := r3.2) [.aload 4, .iload 16] (by decide +kernel) hc hT hF wi (by exact rfl) ?_
            refine am_callV_I (W0 := 0) (argsL := [.int r3.1]) (rest := []) rfl (lk_L_76 hw) rfl (by decide +kernel) hc (subF hw0) rfl (by show arity "(I)Z" 1 = true; decide +kernel) (ok_c_setSeed hw r3.1 _) rfl ⟨by decide, by decide, Nat.le_of_eq rfl, rfl, rfl, by decide, by decide⟩ (fun r5 hr => ?_)
            refine am_blk (pc' := 356) (Ls' := [.val (.ref 99), .unset, .val (.int x2), .unset, .val (.ref 0), .val (.int (x5 + (2 : Int32))), .unset, .unset, .val (.int x8), .val (.int x9), .val (.int x10), .val (.int x11), .val (.int x12), .val (.int x13), .val (.int x14), .val (.int (r2.1 % (5 : Int32))), .val (.int r3.1), .unset]) (St' := [.int x11]) (σ' := r5.2) [.pop, .iload 11] (by decide +kernel) hc hT hF wi (by exact rfl) ?_
            refine am_if_ne (o := 41) (pc1 := 397) (by decide +kernel) hc (fun hq => ?_) (fun hq => ?_)
            · refine am_blk (pc' := 364) (Ls' := [.val (.ref 99), .unset, .val (.int x2), .unset, .val (.ref 0), .val (.int (x5 + (2 : Int32))), .unset, .unset, .val (.int x8), .val (.int x9), .val (.int x10), .val (.int x11), .val (.int x12), .val (.int x13), .val (.int x14), .val (.int (r2.1 % (5 : Int32))), .val (.int r3.1), .unset]) (St' := [.int (r3.1 &&& (65535 : Int32))]) (σ' := r5.2) [.iload 16, .ldc 79, .iand] (by decide +kernel) hc hT hF wi (by exact rfl) ?_
              refine am_if_eq (o := 33) (pc1 := 397) (by decide +kernel) hc (fun hq => ?_) (fun hq => ?_)
              · exact am_wk (Ls' := [.val (.ref 99), .unset, .val (.int x2), .unset, .val (.ref 0), .val (.int (x5 + (2 : Int32))), .unset, .unset, .val (.int x8), .val (.int x9), .val (.int x10), .val (.int x11), .val (.int x12), .val (.int x13), .val (.int x14), .unset, .unset, .unset]) (by simp [wkL]) (okc_q_law_397 hw hc hw0 hsc hn _ ih x2 (x5 + (2 : Int32)) x8 x9 x10 x11 x12 x13 x14 r5.2)
              · refine am_blk (pc' := 397) (Ls' := [.val (.ref 99), .unset, .val (.int x2), .unset, .val (.ref 0), .val (.int (x5 + (2 : Int32))), .unset, .unset, .val (.int x8), .val (.int (r3.1 &&& (65535 : Int32))), .val (.int x10), .val (.int x11), .val (.int x12), .val (.int x13), .val (.int x14), .val (.int (r2.1 % (5 : Int32))), .val (.int r3.1), .unset]) (St' := []) (σ' := r5.2) [.iload 16, .ldc 79, .iand, .istore 9, .goto 23] (by decide +kernel) hc hT hF wi (by exact rfl) ?_
                exact am_wk (Ls' := [.val (.ref 99), .unset, .val (.int x2), .unset, .val (.ref 0), .val (.int (x5 + (2 : Int32))), .unset, .unset, .val (.int x8), .val (.int (r3.1 &&& (65535 : Int32))), .val (.int x10), .val (.int x11), .val (.int x12), .val (.int x13), .val (.int x14), .unset, .unset, .unset]) (by simp [wkL]) (okc_q_law_397 hw hc hw0 hsc hn _ ih x2 (x5 + (2 : Int32)) x8 (r3.1 &&& (65535 : Int32)) x10 x11 x12 x13 x14 r5.2)
            · exact am_wk (Ls' := [.val (.ref 99), .unset, .val (.int x2), .unset, .val (.ref 0), .val (.int (x5 + (2 : Int32))), .unset, .unset, .val (.int x8), .val (.int x9), .val (.int x10), .val (.int x11), .val (.int x12), .val (.int x13), .val (.int x14), .unset, .unset, .unset]) (by simp [wkL]) (okc_q_law_397 hw hc hw0 hsc hn _ ih x2 (x5 + (2 : Int32)) x8 x9 x10 x11 x12 x13 x14 r5.2)
          · refine am_blk (pc' := 381) (Ls' := [.val (.ref 99), .unset, .val (.int x2), .unset, .val (.ref 0), .val (.int (x5 + (2 : Int32))), .unset, .unset, .val (.int x8), .val (.int x9), .val (.int x10), .val (.int x11), .val (.int x12), .val (.int x13), .val (.int x14), .val (.int (r2.1 % (5 : Int32))), .val (.int r3.1), .unset]) (St' := [.int r3.1, .ref 0]) (σ' := r3.2) [.aload 4, .iload 16] (by decide +kernel) hc hT hF wi (by exact rfl) ?_
            refine am_callV_I (W0 := 0) (argsL := [.int r3.1]) (rest := []) rfl (lk_L_80 hw) rfl (by decide +kernel) hc (subF hw0) rfl (by show arity "(I)Z" 1 = true; decide +kernel) (ok_c_setMisrMask hw r3.1 _) rfl ⟨by decide, by decide, Nat.le_of_eq rfl, rfl, rfl, by decide, by decide⟩ (fun r6 hr => ?_)
            refine am_blk (pc' := 387) (Ls' := [.val (.ref 99), .unset, .val (.int x2), .unset, .val (.ref 0), .val (.int (x5 + (2 : Int32))), .unset, .unset, .val (.int x8), .val (.int x9), .val (.int x10), .val (.int x11), .val (.int x12), .val (.int x13), .val (.int x14), .val (.int (r2.1 % (5 : Int32))), .val (.int r3.1), .unset]) (St' := [.int x11]) (σ' := r6.2) [.pop, .iload 11] (by decide +kernel) hc hT hF wi (by exact rfl) ?_
            refine am_if_ne (o := 10) (pc1 := 397) (by decide +kernel) hc (fun hq => ?_) (fun hq => ?_)
            · refine am_blk (pc' := 397) (Ls' := [.val (.ref 99), .unset, .val (.int x2), .unset, .val (.ref 0), .val (.int (x5 + (2 : Int32))), .unset, .unset, .val (.int x8), .val (.int x9), .val (.int (r3.1 &&& x8)), .val (.int x11), .val (.int x12), .val (.int x13), .val (.int x14), .val (.int (r2.1 % (5 : Int32))), .val (.int r3.1), .unset]) (St' := []) (σ' := r6.2) [.iload 16, .iload 8, .iand, .istore 10] (by decide +kernel) hc hT hF wi (by exact rfl) ?_
              exact am_wk (Ls' := [.val (.ref 99), .unset, .val (.int x2), .unset, .val (.ref 0), .val (.int (x5 + (2 : Int32))), .unset, .unset, .val (.int x8), .val (.int x9), .val (.int (r3.1 &&& x8)), .val (.int x11), .val (.int x12), .val (.int x13), .val (.int x14), .unset, .unset, .unset]) (by simp [wkL]) (okc_q_law_397 hw hc hw0 hsc hn _ ih x2 (x5 + (2 : Int32)) x8 x9 (r3.1 &&& x8) x11 x12 x13 x14 r6.2)
            · exact am_wk (Ls' := [.val (.ref 99), .unset, .val (.int x2), .unset, .val (.ref 0), .val (.int (x5 + (2 : Int32))), .unset, .unset, .val (.int x8), .val (.int x9), .val (.int x10), .val (.int x11), .val (.int x12), .val (.int x13), .val (.int x14), .unset, .unset, .unset]) (by simp [wkL]) (okc_q_law_397 hw hc hw0 hsc hn _ ih x2 (x5 + (2 : Int32)) x8 x9 x10 x11 x12 x13 x14 r6.2)
      · refine am_blk (pc' := 295) (Ls' := [.val (.ref 99), .unset, .val (.int x2), .unset, .val (.ref 0), .val (.int (x5 + (2 : Int32))), .unset, .unset, .val (.int x8), .val (.int x9), .val (.int x10), .val (.int x11), .val (.int x12), .val (.int x13), .val (.int x14), .val (.int (r2.1 % (5 : Int32))), .val (.int r3.1), .unset]) (St' := [.int r3.1]) (σ' := r3.2) [.iload 16] (by decide +kernel) hc hT hF wi (by exact rfl) ?_
        refine am_callS_I (W0 := 0) (argsL := [.int r3.1]) (rest := []) (lk_L_52 hw) (by decide +kernel) hc (SubW.refl _) rfl (by show arity "(I)I" 1 = true; decide +kernel) (ok_q_pos hw r3.1 _) rfl ⟨by decide, by decide, Nat.le_of_eq rfl, rfl, rfl, by decide, by decide⟩ (fun r7 hr => ?_)
        refine am_blk (pc' := 300) (Ls' := [.val (.ref 99), .unset, .val (.int x2), .unset, .val (.ref 0), .val (.int (x5 + (2 : Int32))), .unset, .unset, .val (.int x8), .val (.int x9), .val (.int x10), .val (.int x11), .val (.int x12), .val (.int x13), .val (.int x14), .val (.int (r2.1 % (5 : Int32))), .val (.int r3.1), .unset]) (St' := [.int (64 : Int32), .int r7.1]) (σ' := r7.2) [.bipush 64] (by decide +kernel) hc hT hF wi (by exact rfl) ?_
        refine am_irem (by decide +kernel) hc (fun hy => ?_)
        refine am_blk (pc' := 309) (Ls' := [.val (.ref 99), .unset, .val (.int x2), .unset, .val (.ref 0), .val (.int (x5 + (2 : Int32))), .unset, .unset, .val (.int x8), .val (.int x9), .val (.int x10), .val (.int x11), .val (.int x12), .val (.int x13), .val (.int x14), .val (.int (r2.1 % (5 : Int32))), .val (.int r3.1), .val (.int ((r7.1 % (64 : Int32)) + (1 : Int32)))]) (St' := [.int ((r7.1 % (64 : Int32)) + (1 : Int32)), .ref 0]) (σ' := r7.2) [.iconst 1, .iadd, .istore 17, .aload 4, .iload 17] (by decide +kernel) hc hT hF wi (by exact rfl) ?_
        refine am_callV_I (W0 := 0) (argsL := [.int ((r7.1 % (64 : Int32)) + (1 : Int32))]) (rest := []) rfl (lk_L_70 hw) rfl (by decide +kernel) hc (subF hw0) rfl (by show arity "(I)I" 1 = true; decide +kernel) (ok_c_run hw ((r7.1 % (64 : Int32)) + (1 : Int32)) _) rfl ⟨by decide, by decide, Nat.le_of_eq rfl, rfl, rfl, by decide, by decide⟩ (fun r8 hr => ?_)
        refine am_blk (pc' := 397) (Ls' := [.val (.ref 99), .unset, .val (.int x2), .unset, .val (.ref 0), .val (.int (x5 + (2 : Int32))), .unset, .unset, .val (.int x8), .val (.int x9), .val (.int x10), .val (.int (x11 + ((r7.1 % (64 : Int32)) + (1 : Int32)))), .val (.int x12), .val (.int x13), .val (.int x14), .val (.int (r2.1 % (5 : Int32))), .val (.int r3.1), .val (.int ((r7.1 % (64 : Int32)) + (1 : Int32)))]) (St' := []) (σ' := r8.2) [.pop, .iload 11, .iload 17, .iadd, .istore 11, .goto 77] (by decide +kernel) hc hT hF wi (by exact rfl) ?_
        exact am_wk (Ls' := [.val (.ref 99), .unset, .val (.int x2), .unset, .val (.ref 0), .val (.int (x5 + (2 : Int32))), .unset, .unset, .val (.int x8), .val (.int x9), .val (.int x10), .val (.int (x11 + ((r7.1 % (64 : Int32)) + (1 : Int32)))), .val (.int x12), .val (.int x13), .val (.int x14), .unset, .unset, .unset]) (by simp [wkL]) (okc_q_law_397 hw hc hw0 hsc hn _ ih x2 (x5 + (2 : Int32)) x8 x9 x10 (x11 + ((r7.1 % (64 : Int32)) + (1 : Int32))) x12 x13 x14 r8.2)
    · refine am_blk (pc' := 423) (Ls' := [.val (.ref 99), .unset, .val (.int x2), .unset, .val (.ref 0), .val (.int x5), .unset, .unset, .val (.int x8), .val (.int x9), .val (.int x10), .val (.int x11), .val (.int x12), .val (.int x13), .val (.int x14), .unset, .unset, .unset]) (St' := [.int (1 : Int32)]) (σ' := σ) [.iconst 1] (by decide +kernel) hc hT hF wi (by exact rfl) ?_
      exact am_retZ (by decide +kernel) hc (by decide) (by decide) (fun h W O => rfl)
def q_law_155 (sn : Nat) (sf : Nat → Int32) : Nat → Int32 → Int32 → Int32 → Int32 → Int32 → Sg → Option (Int32 × Sg)
  | 0, _, _, _, _, _, _ => none
  | fuel + 1, x2, x5, x6, x7, x8, σ =>
    if x8 < x7 then ((q_cell sn sf x5 σ).bind fun r1 => (q_pos r1.1 r1.2).bind fun r2 => if x6 = 0 then none else ((c_markOutput (r2.1 % x6) r2.2).bind fun r3 => q_law_155 sn sf fuel x2 (x5 + (1 : Int32)) x6 x7 (x8 + (1 : Int32)) r3.2)) else ((q_cell sn sf x5 σ).bind fun r4 => (q_pos r4.1 r4.2).bind fun r5 => if (6 : Int32) = 0 then none else ((q_check (44257 : Int32) (((1 : Int32) <<< (x2 &&& 31)) - (1 : Int32)) x2 (0 : Int32) ((2 : Int32) * x6) r5.2).bind fun r6 => if r6.1 = 0 then (some ((0 : Int32), r6.2)) else (q_law_254 sn sf 400 x2 (x5 + (1 : Int32)) (((1 : Int32) <<< (x2 &&& 31)) - (1 : Int32)) (44257 : Int32) (((1 : Int32) <<< (x2 &&& 31)) - (1 : Int32)) (0 : Int32) ((2 : Int32) * x6) ((r5.1 % (6 : Int32)) + (1 : Int32)) (0 : Int32) r6.2)))
set_option maxRecDepth 65536 in
set_option maxHeartbeats 4000000 in
theorem okc_q_law_155 (hw : WH a0 Z) (hc : Cx p s m meth c Z "LogicBistOwnLaw" code 18 (some .boolean) "law") (hw0 : Rd w0 9) (hsc : w0 99 = some (.inr (.int, sn, some sf))) (hn : n0 ≤ h0.size) : ∀ (fuel : Nat) (x2 : Int32) (x5 : Int32) (x6 : Int32) (x7 : Int32) (x8 : Int32) (σ : Sg), OkR p l e rm_q_law s m args below meth c Z "LogicBist" fsC n0 h0 FL A (wF arrsC w0) 10 444 155 [.val (.ref 99), .unset, .val (.int x2), .unset, .val (.ref 0), .val (.int x5), .val (.int x6), .val (.int x7), .val (.int x8), .unset, .unset, .unset, .unset, .unset, .unset, .unset, .unset, .unset] [] σ (q_law_155 sn sf fuel x2 x5 x6 x7 x8 σ) := by
  have hT := tabL hw "law"
  have hF := fsokC hw
  have wi := wiC hw
  intro fuel
  induction fuel with
  | zero => intro x2 x5 x6 x7 x8 σ; exact am_none rfl
  | succ fuel ih =>
    intro x2 x5 x6 x7 x8 σ
    rw [q_law_155]
    refine am_blk (pc' := 159) (Ls' := [.val (.ref 99), .unset, .val (.int x2), .unset, .val (.ref 0), .val (.int x5), .val (.int x6), .val (.int x7), .val (.int x8), .unset, .unset, .unset, .unset, .unset, .unset, .unset, .unset, .unset]) (St' := [.int x7, .int x8]) (σ' := σ) [.iload 8, .iload 7] (by decide +kernel) hc hT hF wi (by exact rfl) ?_
    refine am_icmp_ge (o := 30) (pc1 := 189) (by decide +kernel) hc (fun hq => ?_) (fun hq => ?_)
    · refine am_blk (pc' := 167) (Ls' := [.val (.ref 99), .unset, .val (.int x2), .unset, .val (.ref 0), .val (.int x5), .val (.int x6), .val (.int x7), .val (.int x8), .unset, .unset, .unset, .unset, .unset, .unset, .unset, .unset, .unset]) (St' := [.int x5, .ref 99, .ref 0]) (σ' := σ) [.aload 4, .aload_n 0, .iload 5] (by decide +kernel) hc hT hF wi (by exact rfl) ?_
      refine am_callS_I (W0 := 1) (argsL := [.ref 99, .int x5]) (rest := [.ref 0]) (lk_L_48 hw) (by decide +kernel) hc (SubW.refl _) rfl (by show arity "([II)I" 2 = true; decide +kernel) (ok_q_cell (w := (wF arrsC w0)) hw hsc x5 _) rfl ⟨by decide, by decide, Nat.le_of_eq rfl, rfl, rfl, by decide, by decide⟩ (fun r1 hr => ?_)
      refine am_callS_I (W0 := 1) (argsL := [.int r1.1]) (rest := [.ref 0]) (lk_L_52 hw) (by decide +kernel) hc (SubW.refl _) rfl (by show arity "(I)I" 1 = true; decide +kernel) (ok_q_pos hw r1.1 _) rfl ⟨by decide, by decide, Nat.le_of_eq rfl, rfl, rfl, by decide, by decide⟩ (fun r2 hr => ?_)
      refine am_blk (pc' := 175) (Ls' := [.val (.ref 99), .unset, .val (.int x2), .unset, .val (.ref 0), .val (.int x5), .val (.int x6), .val (.int x7), .val (.int x8), .unset, .unset, .unset, .unset, .unset, .unset, .unset, .unset, .unset]) (St' := [.int x6, .int r2.1, .ref 0]) (σ' := r2.2) [.iload 6] (by decide +kernel) hc hT hF wi (by exact rfl) ?_
      refine am_irem (by decide +kernel) hc (fun hy => ?_)
      refine am_callV_I (W0 := 0) (argsL := [.int (r2.1 % x6)]) (rest := []) rfl (lk_L_62 hw) rfl (by decide +kernel) hc (subF hw0) rfl (by show arity "(I)Z" 1 = true; decide +kernel) (ok_c_markOutput hw (r2.1 % x6) _) rfl ⟨by decide, by decide, Nat.le_of_eq rfl, rfl, rfl, by decide, by decide⟩ (fun r3 hr => ?_)
      refine am_blk (pc' := 155) (Ls' := [.val (.ref 99), .unset, .val (.int x2), .unset, .val (.ref 0), .val (.int (x5 + (1 : Int32))), .val (.int x6), .val (.int x7), .val (.int (x8 + (1 : Int32))), .unset, .unset, .unset, .unset, .unset, .unset, .unset, .unset, .unset]) (St' := []) (σ' := r3.2) [.pop, .iinc 5 1, .iinc 8 1, .goto (-31)] (by decide +kernel) hc hT hF wi (by exact rfl) ?_
      exact am_wk (Ls' := [.val (.ref 99), .unset, .val (.int x2), .unset, .val (.ref 0), .val (.int (x5 + (1 : Int32))), .val (.int x6), .val (.int x7), .val (.int (x8 + (1 : Int32))), .unset, .unset, .unset, .unset, .unset, .unset, .unset, .unset, .unset]) (by simp [wkL]) (ih x2 (x5 + (1 : Int32)) x6 x7 (x8 + (1 : Int32)) r3.2)
    · refine am_blk (pc' := 216) (Ls' := [.val (.ref 99), .unset, .val (.int x2), .unset, .val (.ref 0), .val (.int x5), .val (.int x6), .val (.int x7), .val (.int (((1 : Int32) <<< (x2 &&& 31)) - (1 : Int32))), .val (.int (44257 : Int32)), .val (.int (((1 : Int32) <<< (x2 &&& 31)) - (1 : Int32))), .val (.int (0 : Int32)), .val (.int ((2 : Int32) * x6)), .unset, .unset, .unset, .unset, .unset]) (St' := [.int x5, .ref 99]) (σ' := σ) [.iconst 1, .iload_n 2, .ishl, .iconst 1, .isub, .istore 8, .ldc 65, .istore 9, .iload 8, .istore 10, .iconst 0, .istore 11, .iconst 2, .iload 6, .imul, .istore 12, .aload_n 0, .iload 5] (by decide +kernel) hc hT hF wi (by exact rfl) ?_
      refine am_callS_I (W0 := 0) (argsL := [.ref 99, .int x5]) (rest := []) (lk_L_48 hw) (by decide +kernel) hc (SubW.refl _) rfl (by show arity "([II)I" 2 = true; decide +kernel) (ok_q_cell (w := (wF arrsC w0)) hw hsc x5 _) rfl ⟨by decide, by decide, Nat.le_of_eq rfl, rfl, rfl, by decide, by decide⟩ (fun r4 hr => ?_)
      refine am_callS_I (W0 := 0) (argsL := [.int r4.1]) (rest := []) (lk_L_52 hw) (by decide +kernel) hc (SubW.refl _) rfl (by show arity "(I)I" 1 = true; decide +kernel) (ok_q_pos hw r4.1 _) rfl ⟨by decide, by decide, Nat.le_of_eq rfl, rfl, rfl, by decide, by decide⟩ (fun r5 hr => ?_)
      refine am_blk (pc' := 224) (Ls' := [.val (.ref 99), .unset, .val (.int x2), .unset, .val (.ref 0), .val (.int x5), .val (.int x6), .val (.int x7), .val (.int (((1 : Int32) <<< (x2 &&& 31)) - (1 : Int32))), .val (.int (44257 : Int32)), .val (.int (((1 : Int32) <<< (x2 &&& 31)) - (1 : Int32))), .val (.int (0 : Int32)), .val (.int ((2 : Int32) * x6)), .unset, .unset, .unset, .unset, .unset]) (St' := [.int (6 : Int32), .int r5.1]) (σ' := r5.2) [.bipush 6] (by decide +kernel) hc hT hF wi (by exact rfl) ?_
      refine am_irem (by decide +kernel) hc (fun hy => ?_)
      refine am_blk (pc' := 243) (Ls' := [.val (.ref 99), .unset, .val (.int x2), .unset, .val (.ref 0), .val (.int (x5 + (1 : Int32))), .val (.int x6), .val (.int x7), .val (.int (((1 : Int32) <<< (x2 &&& 31)) - (1 : Int32))), .val (.int (44257 : Int32)), .val (.int (((1 : Int32) <<< (x2 &&& 31)) - (1 : Int32))), .val (.int (0 : Int32)), .val (.int ((2 : Int32) * x6)), .val (.int ((r5.1 % (6 : Int32)) + (1 : Int32))), .unset, .unset, .unset, .unset]) (St' := [.int ((2 : Int32) * x6), .int (0 : Int32), .int x2, .int (((1 : Int32) <<< (x2 &&& 31)) - (1 : Int32)), .int (44257 : Int32), .ref 0]) (σ' := r5.2) [.iconst 1, .iadd, .istore 13, .iinc 5 1, .aload 4, .iload 9, .iload 10, .iload_n 2, .iload 11, .iload 12] (by decide +kernel) hc hT hF wi (by exact rfl) ?_
      refine am_callS_I (W0 := 0) (argsL := [.ref 0, .int (44257 : Int32), .int (((1 : Int32) <<< (x2 &&& 31)) - (1 : Int32)), .int x2, .int (0 : Int32), .int ((2 : Int32) * x6)]) (rest := []) (lk_L_66 hw) (by decide +kernel) hc (subF hw0) rfl (by show arity "(LLogicBist;IIIII)Z" 6 = true; decide +kernel) (ok_q_check hw (44257 : Int32) (((1 : Int32) <<< (x2 &&& 31)) - (1 : Int32)) x2 (0 : Int32) ((2 : Int32) * x6) _) rfl ⟨by decide, by decide, Nat.le_of_eq rfl, rfl, rfl, by decide, by decide⟩ (fun r6 hr => ?_)
      refine am_if_ne (o := 5) (pc1 := 251) (by decide +kernel) hc (fun hq => ?_) (fun hq => ?_)
      · refine am_blk (pc' := 250) (Ls' := [.val (.ref 99), .unset, .val (.int x2), .unset, .val (.ref 0), .val (.int (x5 + (1 : Int32))), .val (.int x6), .val (.int x7), .val (.int (((1 : Int32) <<< (x2 &&& 31)) - (1 : Int32))), .val (.int (44257 : Int32)), .val (.int (((1 : Int32) <<< (x2 &&& 31)) - (1 : Int32))), .val (.int (0 : Int32)), .val (.int ((2 : Int32) * x6)), .val (.int ((r5.1 % (6 : Int32)) + (1 : Int32))), .unset, .unset, .unset, .unset]) (St' := [.int (0 : Int32)]) (σ' := r6.2) [.iconst 0] (by decide +kernel) hc hT hF wi (by exact rfl) ?_
        exact am_retZ (by decide +kernel) hc (by decide) (by decide) (fun h W O => rfl)
      · refine am_blk (pc' := 254) (Ls' := [.val (.ref 99), .unset, .val (.int x2), .unset, .val (.ref 0), .val (.int (x5 + (1 : Int32))), .val (.int x6), .val (.int x7), .val (.int (((1 : Int32) <<< (x2 &&& 31)) - (1 : Int32))), .val (.int (44257 : Int32)), .val (.int (((1 : Int32) <<< (x2 &&& 31)) - (1 : Int32))), .val (.int (0 : Int32)), .val (.int ((2 : Int32) * x6)), .val (.int ((r5.1 % (6 : Int32)) + (1 : Int32))), .val (.int (0 : Int32)), .unset, .unset, .unset]) (St' := []) (σ' := r6.2) [.iconst 0, .istore 14] (by decide +kernel) hc hT hF wi (by exact rfl) ?_
        exact am_wk (Ls' := [.val (.ref 99), .unset, .val (.int x2), .unset, .val (.ref 0), .val (.int (x5 + (1 : Int32))), .unset, .unset, .val (.int (((1 : Int32) <<< (x2 &&& 31)) - (1 : Int32))), .val (.int (44257 : Int32)), .val (.int (((1 : Int32) <<< (x2 &&& 31)) - (1 : Int32))), .val (.int (0 : Int32)), .val (.int ((2 : Int32) * x6)), .val (.int ((r5.1 % (6 : Int32)) + (1 : Int32))), .val (.int (0 : Int32)), .unset, .unset, .unset]) (by simp [wkL]) (okc_q_law_254 hw hc hw0 hsc hn 400 x2 (x5 + (1 : Int32)) (((1 : Int32) <<< (x2 &&& 31)) - (1 : Int32)) (44257 : Int32) (((1 : Int32) <<< (x2 &&& 31)) - (1 : Int32)) (0 : Int32) ((2 : Int32) * x6) ((r5.1 % (6 : Int32)) + (1 : Int32)) (0 : Int32) r6.2)
def q_law_61 (sn : Nat) (sf : Nat → Int32) : Nat → Int32 → Int32 → Int32 → Int32 → Int32 → Sg → Option (Int32 × Sg)
  | 0, _, _, _, _, _, _ => none
  | fuel + 1, x1, x2, x3, x5, x6, σ =>
    if x6 < x3 then ((q_cell sn sf x5 σ).bind fun r1 => (q_pos r1.1 r1.2).bind fun r2 => if (8 : Int32) = 0 then none else ((q_cell sn sf (x5 + (1 : Int32)) r2.2).bind fun r3 => (q_pos r3.1 r3.2).bind fun r4 => if (x1 + x6) = 0 then none else ((q_cell sn sf (x5 + (2 : Int32)) r4.2).bind fun r5 => (q_pos r5.1 r5.2).bind fun r6 => if (x1 + x6) = 0 then none else ((c_addGate (r2.1 % (8 : Int32)) (r4.1 % (x1 + x6)) (r6.1 % (x1 + x6)) r6.2).bind fun r7 => q_law_61 sn sf fuel x1 x2 x3 (x5 + (3 : Int32)) (x6 + (1 : Int32)) r7.2)))) else ((q_cell sn sf x5 σ).bind fun r8 => (q_pos r8.1 r8.2).bind fun r9 => if (8 : Int32) = 0 then none else (q_law_155 sn sf 400 x2 (x5 + (1 : Int32)) (x1 + x3) ((r9.1 % (8 : Int32)) + (1 : Int32)) (0 : Int32) r9.2))
set_option maxRecDepth 65536 in
set_option maxHeartbeats 4000000 in
theorem okc_q_law_61 (hw : WH a0 Z) (hc : Cx p s m meth c Z "LogicBistOwnLaw" code 18 (some .boolean) "law") (hw0 : Rd w0 9) (hsc : w0 99 = some (.inr (.int, sn, some sf))) (hn : n0 ≤ h0.size) : ∀ (fuel : Nat) (x1 : Int32) (x2 : Int32) (x3 : Int32) (x5 : Int32) (x6 : Int32) (σ : Sg), OkR p l e rm_q_law s m args below meth c Z "LogicBist" fsC n0 h0 FL A (wF arrsC w0) 10 444 61 [.val (.ref 99), .val (.int x1), .val (.int x2), .val (.int x3), .val (.ref 0), .val (.int x5), .val (.int x6), .unset, .unset, .unset, .unset, .unset, .unset, .unset, .unset, .unset, .unset, .unset] [] σ (q_law_61 sn sf fuel x1 x2 x3 x5 x6 σ) := by
  have hT := tabL hw "law"
  have hF := fsokC hw
  have wi := wiC hw
  intro fuel
  induction fuel with
  | zero => intro x1 x2 x3 x5 x6 σ; exact am_none rfl
  | succ fuel ih =>
    intro x1 x2 x3 x5 x6 σ
    rw [q_law_61]
    refine am_blk (pc' := 64) (Ls' := [.val (.ref 99), .val (.int x1), .val (.int x2), .val (.int x3), .val (.ref 0), .val (.int x5), .val (.int x6), .unset, .unset, .unset, .unset, .unset, .unset, .unset, .unset, .unset, .unset, .unset]) (St' := [.int x3, .int x6]) (σ' := σ) [.iload 6, .iload_n 3] (by decide +kernel) hc hT hF wi (by exact rfl) ?_
    refine am_icmp_ge (o := 64) (pc1 := 128) (by decide +kernel) hc (fun hq => ?_) (fun hq => ?_)
    · refine am_blk (pc' := 78) (Ls' := [.val (.ref 99), .val (.int x1), .val (.int x2), .val (.int x3), .val (.ref 0), .val (.int x5), .val (.int x6), .val (.int (x1 + x6)), .unset, .unset, .unset, .unset, .unset, .unset, .unset, .unset, .unset, .unset]) (St' := [.int x5, .ref 99, .ref 0]) (σ' := σ) [.iload_n 1, .iload 6, .iadd, .istore 7, .aload 4, .aload_n 0, .iload 5] (by decide +kernel) hc hT hF wi (by exact rfl) ?_
      refine am_callS_I (W0 := 1) (argsL := [.ref 99, .int x5]) (rest := [.ref 0]) (lk_L_48 hw) (by decide +kernel) hc (SubW.refl _) rfl (by show arity "([II)I" 2 = true; decide +kernel) (ok_q_cell (w := (wF arrsC w0)) hw hsc x5 _) rfl ⟨by decide, by decide, Nat.le_of_eq rfl, rfl, rfl, by decide, by decide⟩ (fun r1 hr => ?_)
      refine am_callS_I (W0 := 1) (argsL := [.int r1.1]) (rest := [.ref 0]) (lk_L_52 hw) (by decide +kernel) hc (SubW.refl _) rfl (by show arity "(I)I" 1 = true; decide +kernel) (ok_q_pos hw r1.1 _) rfl ⟨by decide, by decide, Nat.le_of_eq rfl, rfl, rfl, by decide, by decide⟩ (fun r2 hr => ?_)
      refine am_blk (pc' := 86) (Ls' := [.val (.ref 99), .val (.int x1), .val (.int x2), .val (.int x3), .val (.ref 0), .val (.int x5), .val (.int x6), .val (.int (x1 + x6)), .unset, .unset, .unset, .unset, .unset, .unset, .unset, .unset, .unset, .unset]) (St' := [.int (8 : Int32), .int r2.1, .ref 0]) (σ' := r2.2) [.bipush 8] (by decide +kernel) hc hT hF wi (by exact rfl) ?_
      refine am_irem (by decide +kernel) hc (fun hy => ?_)
      refine am_blk (pc' := 92) (Ls' := [.val (.ref 99), .val (.int x1), .val (.int x2), .val (.int x3), .val (.ref 0), .val (.int x5), .val (.int x6), .val (.int (x1 + x6)), .unset, .unset, .unset, .unset, .unset, .unset, .unset, .unset, .unset, .unset]) (St' := [.int (x5 + (1 : Int32)), .ref 99, .int (r2.1 % (8 : Int32)), .ref 0]) (σ' := r2.2) [.aload_n 0, .iload 5, .iconst 1, .iadd] (by decide +kernel) hc hT hF wi (by exact rfl) ?_
      refine am_callS_I (W0 := 2) (argsL := [.ref 99, .int (x5 + (1 : Int32))]) (rest := [.int (r2.1 % (8 : Int32)), .ref 0]) (lk_L_48 hw) (by decide +kernel) hc (SubW.refl _) rfl (by show arity "([II)I" 2 = true; decide +kernel) (ok_q_cell (w := (wF arrsC w0)) hw hsc (x5 + (1 : Int32)) _) rfl ⟨by decide, by decide, Nat.le_of_eq rfl, rfl, rfl, by decide, by decide⟩ (fun r3 hr => ?_)
      refine am_callS_I (W0 := 2) (argsL := [.int r3.1]) (rest := [.int (r2.1 % (8 : Int32)), .ref 0]) (lk_L_52 hw) (by decide +kernel) hc (SubW.refl _) rfl (by show arity "(I)I" 1 = true; decide +kernel) (ok_q_pos hw r3.1 _) rfl ⟨by decide, by decide, Nat.le_of_eq rfl, rfl, rfl, by decide, by decide⟩ (fun r4 hr => ?_)
      refine am_blk (pc' := 100) (Ls' := [.val (.ref 99), .val (.int x1), .val (.int x2), .val (.int x3), .val (.ref 0), .val (.int x5), .val (.int x6), .val (.int (x1 + x6)), .unset, .unset, .unset, .unset, .unset, .unset, .unset, .unset, .unset, .unset]) (St' := [.int (x1 + x6), .int r4.1, .int (r2.1 % (8 : Int32)), .ref 0]) (σ' := r4.2) [.iload 7] (by decide +kernel) hc hT hF wi (by exact rfl) ?_
      refine am_irem (by decide +kernel) hc (fun hy => ?_)
      refine am_blk (pc' := 106) (Ls' := [.val (.ref 99), .val (.int x1), .val (.int x2), .val (.int x3), .val (.ref 0), .val (.int x5), .val (.int x6), .val (.int (x1 + x6)), .unset, .unset, .unset, .unset, .unset, .unset, .unset, .unset, .unset, .unset]) (St' := [.int (x5 + (2 : Int32)), .ref 99, .int (r4.1 % (x1 + x6)), .int (r2.1 % (8 : Int32)), .ref 0]) (σ' := r4.2) [.aload_n 0, .iload 5, .iconst 2, .iadd] (by decide +kernel) hc hT hF wi (by exact rfl) ?_
      refine am_callS_I (W0 := 3) (argsL := [.ref 99, .int (x5 + (2 : Int32))]) (rest := [.int (r4.1 % (x1 + x6)), .int (r2.1 % (8 : Int32)), .ref 0]) (lk_L_48 hw) (by decide +kernel) hc (SubW.refl _) rfl (by show arity "([II)I" 2 = true; decide +kernel) (ok_q_cell (w := (wF arrsC w0)) hw hsc (x5 + (2 : Int32)) _) rfl ⟨by decide, by decide, Nat.le_of_eq rfl, rfl, rfl, by decide, by decide⟩ (fun r5 hr => ?_)
      refine am_callS_I (W0 := 3) (argsL := [.int r5.1]) (rest := [.int (r4.1 % (x1 + x6)), .int (r2.1 % (8 : Int32)), .ref 0]) (lk_L_52 hw) (by decide +kernel) hc (SubW.refl _) rfl (by show arity "(I)I" 1 = true; decide +kernel) (ok_q_pos hw r5.1 _) rfl ⟨by decide, by decide, Nat.le_of_eq rfl, rfl, rfl, by decide, by decide⟩ (fun r6 hr => ?_)
      refine am_blk (pc' := 114) (Ls' := [.val (.ref 99), .val (.int x1), .val (.int x2), .val (.int x3), .val (.ref 0), .val (.int x5), .val (.int x6), .val (.int (x1 + x6)), .unset, .unset, .unset, .unset, .unset, .unset, .unset, .unset, .unset, .unset]) (St' := [.int (x1 + x6), .int r6.1, .int (r4.1 % (x1 + x6)), .int (r2.1 % (8 : Int32)), .ref 0]) (σ' := r6.2) [.iload 7] (by decide +kernel) hc hT hF wi (by exact rfl) ?_
      refine am_irem (by decide +kernel) hc (fun hy => ?_)
      refine am_callV_I (W0 := 0) (argsL := [.int (r2.1 % (8 : Int32)), .int (r4.1 % (x1 + x6)), .int (r6.1 % (x1 + x6))]) (rest := []) rfl (lk_L_58 hw) rfl (by decide +kernel) hc (subF hw0) rfl (by show arity "(III)I" 3 = true; decide +kernel) (ok_c_addGate hw (r2.1 % (8 : Int32)) (r4.1 % (x1 + x6)) (r6.1 % (x1 + x6)) _) rfl ⟨by decide, by decide, Nat.le_of_eq rfl, rfl, rfl, by decide, by decide⟩ (fun r7 hr => ?_)
      refine am_blk (pc' := 61) (Ls' := [.val (.ref 99), .val (.int x1), .val (.int x2), .val (.int x3), .val (.ref 0), .val (.int (x5 + (3 : Int32))), .val (.int (x6 + (1 : Int32))), .val (.int (x1 + x6)), .unset, .unset, .unset, .unset, .unset, .unset, .unset, .unset, .unset, .unset]) (St' := []) (σ' := r7.2) [.pop, .iinc 5 3, .iinc 6 1, .goto (-64)] (by decide +kernel) hc hT hF wi (by exact rfl) ?_
      exact am_wk (Ls' := [.val (.ref 99), .val (.int x1), .val (.int x2), .val (.int x3), .val (.ref 0), .val (.int (x5 + (3 : Int32))), .val (.int (x6 + (1 : Int32))), .unset, .unset, .unset, .unset, .unset, .unset, .unset, .unset, .unset, .unset, .unset]) (by simp [wkL]) (ih x1 x2 x3 (x5 + (3 : Int32)) (x6 + (1 : Int32)) r7.2)
    · refine am_blk (pc' := 136) (Ls' := [.val (.ref 99), .val (.int x1), .val (.int x2), .val (.int x3), .val (.ref 0), .val (.int x5), .val (.int (x1 + x3)), .unset, .unset, .unset, .unset, .unset, .unset, .unset, .unset, .unset, .unset, .unset]) (St' := [.int x5, .ref 99]) (σ' := σ) [.iload_n 1, .iload_n 3, .iadd, .istore 6, .aload_n 0, .iload 5] (by decide +kernel) hc hT hF wi (by exact rfl) ?_
      refine am_callS_I (W0 := 0) (argsL := [.ref 99, .int x5]) (rest := []) (lk_L_48 hw) (by decide +kernel) hc (SubW.refl _) rfl (by show arity "([II)I" 2 = true; decide +kernel) (ok_q_cell (w := (wF arrsC w0)) hw hsc x5 _) rfl ⟨by decide, by decide, Nat.le_of_eq rfl, rfl, rfl, by decide, by decide⟩ (fun r8 hr => ?_)
      refine am_callS_I (W0 := 0) (argsL := [.int r8.1]) (rest := []) (lk_L_52 hw) (by decide +kernel) hc (SubW.refl _) rfl (by show arity "(I)I" 1 = true; decide +kernel) (ok_q_pos hw r8.1 _) rfl ⟨by decide, by decide, Nat.le_of_eq rfl, rfl, rfl, by decide, by decide⟩ (fun r9 hr => ?_)
      refine am_blk (pc' := 144) (Ls' := [.val (.ref 99), .val (.int x1), .val (.int x2), .val (.int x3), .val (.ref 0), .val (.int x5), .val (.int (x1 + x3)), .unset, .unset, .unset, .unset, .unset, .unset, .unset, .unset, .unset, .unset, .unset]) (St' := [.int (8 : Int32), .int r9.1]) (σ' := r9.2) [.bipush 8] (by decide +kernel) hc hT hF wi (by exact rfl) ?_
      refine am_irem (by decide +kernel) hc (fun hy => ?_)
      refine am_blk (pc' := 155) (Ls' := [.val (.ref 99), .val (.int x1), .val (.int x2), .val (.int x3), .val (.ref 0), .val (.int (x5 + (1 : Int32))), .val (.int (x1 + x3)), .val (.int ((r9.1 % (8 : Int32)) + (1 : Int32))), .val (.int (0 : Int32)), .unset, .unset, .unset, .unset, .unset, .unset, .unset, .unset, .unset]) (St' := []) (σ' := r9.2) [.iconst 1, .iadd, .istore 7, .iinc 5 1, .iconst 0, .istore 8] (by decide +kernel) hc hT hF wi (by exact rfl) ?_
      exact am_wk (Ls' := [.val (.ref 99), .unset, .val (.int x2), .unset, .val (.ref 0), .val (.int (x5 + (1 : Int32))), .val (.int (x1 + x3)), .val (.int ((r9.1 % (8 : Int32)) + (1 : Int32))), .val (.int (0 : Int32)), .unset, .unset, .unset, .unset, .unset, .unset, .unset, .unset, .unset]) (by simp [wkL]) (okc_q_law_155 hw hc hw0 hsc hn 400 x2 (x5 + (1 : Int32)) (x1 + x3) ((r9.1 % (8 : Int32)) + (1 : Int32)) (0 : Int32) r9.2)
def q_law (sn : Nat) (sf : Nat → Int32) : Option (Int32 × Sg) :=
  (q_cell sn sf (0 : Int32) zs).bind fun r1 => (q_pos r1.1 r1.2).bind fun r2 => if (8 : Int32) = 0 then none else ((q_cell sn sf (1 : Int32) r2.2).bind fun r3 => (q_pos r3.1 r3.2).bind fun r4 => if (16 : Int32) = 0 then none else ((q_cell sn sf (2 : Int32) r4.2).bind fun r5 => (q_pos r5.1 r5.2).bind fun r6 => if (12 : Int32) = 0 then none else ((c_init ((r2.1 % (8 : Int32)) + (1 : Int32)) (32 : Int32) ((r4.1 % (16 : Int32)) + (1 : Int32))).bind fun r7 => q_law_61 sn sf 400 ((r2.1 % (8 : Int32)) + (1 : Int32)) ((r4.1 % (16 : Int32)) + (1 : Int32)) ((r6.1 % (12 : Int32)) + (1 : Int32)) (3 : Int32) (0 : Int32) r7)))
set_option maxRecDepth 65536 in
set_option maxHeartbeats 4000000 in
theorem ok_q_law (hw : WH a0 Z) (hw0 : Rd w0 9) (hsc : w0 99 = some (.inr (.int, sn, some sf))) (hn : n0 ≤ h0.size) (hc : Cx p s m meth c Z "LogicBistOwnLaw" code 18 (some .boolean) "law") : OkR p l e rm_q_law s m args below meth c Z "LogicBist" fsC n0 h0 FL A w0 0 0 0 [.val (.ref 99), .unset, .unset, .unset, .unset, .unset, .unset, .unset, .unset, .unset, .unset, .unset, .unset, .unset, .unset, .unset, .unset, .unset] [] zs (q_law sn sf) := by
  have hT := tabL hw "law"
  have hF := fsokC hw
  have wi := wiC hw
  unfold q_law
  refine am_blk (pc' := 2) (Ls' := [.val (.ref 99), .unset, .unset, .unset, .unset, .unset, .unset, .unset, .unset, .unset, .unset, .unset, .unset, .unset, .unset, .unset, .unset, .unset]) (St' := [.int (0 : Int32), .ref 99]) (σ' := zs) [.aload_n 0, .iconst 0] (by decide +kernel) hc hT hF wi (by exact rfl) ?_
  refine am_callS_I (W0 := 0) (argsL := [.ref 99, .int (0 : Int32)]) (rest := []) (lk_L_48 hw) (by decide +kernel) hc (SubW.refl _) rfl (by show arity "([II)I" 2 = true; decide +kernel) (ok_q_cell (w := w0) hw hsc (0 : Int32) _) rfl ⟨by decide, by decide, Nat.le_of_eq rfl, rfl, rfl, by decide, by decide⟩ (fun r1 hr => ?_)
  refine am_callS_I (W0 := 0) (argsL := [.int r1.1]) (rest := []) (lk_L_52 hw) (by decide +kernel) hc (SubW.refl _) rfl (by show arity "(I)I" 1 = true; decide +kernel) (ok_q_pos hw r1.1 _) rfl ⟨by decide, by decide, Nat.le_of_eq rfl, rfl, rfl, by decide, by decide⟩ (fun r2 hr => ?_)
  refine am_blk (pc' := 10) (Ls' := [.val (.ref 99), .unset, .unset, .unset, .unset, .unset, .unset, .unset, .unset, .unset, .unset, .unset, .unset, .unset, .unset, .unset, .unset, .unset]) (St' := [.int (8 : Int32), .int r2.1]) (σ' := r2.2) [.bipush 8] (by decide +kernel) hc hT hF wi (by exact rfl) ?_
  refine am_irem (by decide +kernel) hc (fun hy => ?_)
  refine am_blk (pc' := 16) (Ls' := [.val (.ref 99), .val (.int ((r2.1 % (8 : Int32)) + (1 : Int32))), .unset, .unset, .unset, .unset, .unset, .unset, .unset, .unset, .unset, .unset, .unset, .unset, .unset, .unset, .unset, .unset]) (St' := [.int (1 : Int32), .ref 99]) (σ' := r2.2) [.iconst 1, .iadd, .istore_n 1, .aload_n 0, .iconst 1] (by decide +kernel) hc hT hF wi (by exact rfl) ?_
  refine am_callS_I (W0 := 0) (argsL := [.ref 99, .int (1 : Int32)]) (rest := []) (lk_L_48 hw) (by decide +kernel) hc (SubW.refl _) rfl (by show arity "([II)I" 2 = true; decide +kernel) (ok_q_cell (w := w0) hw hsc (1 : Int32) _) rfl ⟨by decide, by decide, Nat.le_of_eq rfl, rfl, rfl, by decide, by decide⟩ (fun r3 hr => ?_)
  refine am_callS_I (W0 := 0) (argsL := [.int r3.1]) (rest := []) (lk_L_52 hw) (by decide +kernel) hc (SubW.refl _) rfl (by show arity "(I)I" 1 = true; decide +kernel) (ok_q_pos hw r3.1 _) rfl ⟨by decide, by decide, Nat.le_of_eq rfl, rfl, rfl, by decide, by decide⟩ (fun r4 hr => ?_)
  refine am_blk (pc' := 24) (Ls' := [.val (.ref 99), .val (.int ((r2.1 % (8 : Int32)) + (1 : Int32))), .unset, .unset, .unset, .unset, .unset, .unset, .unset, .unset, .unset, .unset, .unset, .unset, .unset, .unset, .unset, .unset]) (St' := [.int (16 : Int32), .int r4.1]) (σ' := r4.2) [.bipush 16] (by decide +kernel) hc hT hF wi (by exact rfl) ?_
  refine am_irem (by decide +kernel) hc (fun hy => ?_)
  refine am_blk (pc' := 30) (Ls' := [.val (.ref 99), .val (.int ((r2.1 % (8 : Int32)) + (1 : Int32))), .val (.int ((r4.1 % (16 : Int32)) + (1 : Int32))), .unset, .unset, .unset, .unset, .unset, .unset, .unset, .unset, .unset, .unset, .unset, .unset, .unset, .unset, .unset]) (St' := [.int (2 : Int32), .ref 99]) (σ' := r4.2) [.iconst 1, .iadd, .istore_n 2, .aload_n 0, .iconst 2] (by decide +kernel) hc hT hF wi (by exact rfl) ?_
  refine am_callS_I (W0 := 0) (argsL := [.ref 99, .int (2 : Int32)]) (rest := []) (lk_L_48 hw) (by decide +kernel) hc (SubW.refl _) rfl (by show arity "([II)I" 2 = true; decide +kernel) (ok_q_cell (w := w0) hw hsc (2 : Int32) _) rfl ⟨by decide, by decide, Nat.le_of_eq rfl, rfl, rfl, by decide, by decide⟩ (fun r5 hr => ?_)
  refine am_callS_I (W0 := 0) (argsL := [.int r5.1]) (rest := []) (lk_L_52 hw) (by decide +kernel) hc (SubW.refl _) rfl (by show arity "(I)I" 1 = true; decide +kernel) (ok_q_pos hw r5.1 _) rfl ⟨by decide, by decide, Nat.le_of_eq rfl, rfl, rfl, by decide, by decide⟩ (fun r6 hr => ?_)
  refine am_blk (pc' := 38) (Ls' := [.val (.ref 99), .val (.int ((r2.1 % (8 : Int32)) + (1 : Int32))), .val (.int ((r4.1 % (16 : Int32)) + (1 : Int32))), .unset, .unset, .unset, .unset, .unset, .unset, .unset, .unset, .unset, .unset, .unset, .unset, .unset, .unset, .unset]) (St' := [.int (12 : Int32), .int r6.1]) (σ' := r6.2) [.bipush 12] (by decide +kernel) hc hT hF wi (by exact rfl) ?_
  refine am_irem (by decide +kernel) hc (fun hy => ?_)
  refine am_blk (pc' := 42) (Ls' := [.val (.ref 99), .val (.int ((r2.1 % (8 : Int32)) + (1 : Int32))), .val (.int ((r4.1 % (16 : Int32)) + (1 : Int32))), .val (.int ((r6.1 % (12 : Int32)) + (1 : Int32))), .unset, .unset, .unset, .unset, .unset, .unset, .unset, .unset, .unset, .unset, .unset, .unset, .unset, .unset]) (St' := []) (σ' := r6.2) [.iconst 1, .iadd, .istore_n 3] (by decide +kernel) hc hT hF wi (by exact rfl) ?_
  refine am_new (mm := 9) (by decide +kernel) hc hF (hw _ (List.mem_of_getElem? (i := 8) rfl)) wi (wzC hw) hw0 ⟨rfl, rfl⟩ hn ⟨by decide, by decide⟩ (fun A hA => ?_)
  refine am_blk (pc' := 50) (Ls' := [.val (.ref 99), .val (.int ((r2.1 % (8 : Int32)) + (1 : Int32))), .val (.int ((r4.1 % (16 : Int32)) + (1 : Int32))), .val (.int ((r6.1 % (12 : Int32)) + (1 : Int32))), .unset, .unset, .unset, .unset, .unset, .unset, .unset, .unset, .unset, .unset, .unset, .unset, .unset, .unset]) (St' := [.int ((r4.1 % (16 : Int32)) + (1 : Int32)), .int (32 : Int32), .int ((r2.1 % (8 : Int32)) + (1 : Int32)), .ref 0, .ref 0]) (σ' := zs) [.dup, .iload_n 1, .bipush 32, .iload_n 2] (by decide +kernel) hc hT hF wi (by exact rfl) ?_
  refine am_ctor (arrs := arrsC) (W0 := 1) (argsL := [.int ((r2.1 % (8 : Int32)) + (1 : Int32)), .int (32 : Int32), .int ((r4.1 % (16 : Int32)) + (1 : Int32))]) (rest := [.ref 0]) (lk_L_55 hw) (by decide +kernel) hc hw0 rfl (by show arity "(III)V" 3 = true; decide +kernel) (ok_c_init hw ((r2.1 % (8 : Int32)) + (1 : Int32)) (32 : Int32) ((r4.1 % (16 : Int32)) + (1 : Int32))) ⟨rfl, rfl⟩ rfl hn ⟨by decide, by decide, Nat.le_of_eq rfl, by decide, by decide⟩ (fun A r7 hr => ?_)
  refine am_blk (pc' := 61) (Ls' := [.val (.ref 99), .val (.int ((r2.1 % (8 : Int32)) + (1 : Int32))), .val (.int ((r4.1 % (16 : Int32)) + (1 : Int32))), .val (.int ((r6.1 % (12 : Int32)) + (1 : Int32))), .val (.ref 0), .val (.int (3 : Int32)), .val (.int (0 : Int32)), .unset, .unset, .unset, .unset, .unset, .unset, .unset, .unset, .unset, .unset, .unset]) (St' := []) (σ' := r7) [.astore 4, .iconst 3, .istore 5, .iconst 0, .istore 6] (by decide +kernel) hc hT hF wi (by exact rfl) ?_
  exact am_wk (Ls' := [.val (.ref 99), .val (.int ((r2.1 % (8 : Int32)) + (1 : Int32))), .val (.int ((r4.1 % (16 : Int32)) + (1 : Int32))), .val (.int ((r6.1 % (12 : Int32)) + (1 : Int32))), .val (.ref 0), .val (.int (3 : Int32)), .val (.int (0 : Int32)), .unset, .unset, .unset, .unset, .unset, .unset, .unset, .unset, .unset, .unset, .unset]) (by simp [wkL]) (okc_q_law_61 hw hc hw0 hsc hn 400 ((r2.1 % (8 : Int32)) + (1 : Int32)) ((r4.1 % (16 : Int32)) + (1 : Int32)) ((r6.1 % (12 : Int32)) + (1 : Int32)) (3 : Int32) (0 : Int32) r7)
end Walk
/-! numbers -/
theorem ti_lt {x y : Int32} : x < y ↔ x.toInt < y.toInt := Int32.lt_iff_toInt_lt
theorem ti_eq {x y : Int32} : x = y ↔ x.toInt = y.toInt := Int32.toInt_inj.symm
theorem ti_lo (x : Int32) : -2147483648 ≤ x.toInt := Int32.le_toInt x
theorem ti_hi (x : Int32) : x.toInt ≤ 2147483647 := by have := Int32.toInt_lt x; omega
theorem ti_add {x y : Int32} (h1 : -2147483648 ≤ x.toInt + y.toInt) (h2 : x.toInt + y.toInt ≤ 2147483647) : (x + y).toInt = x.toInt + y.toInt := by
  rw [Int32.toInt_add]; exact Int.bmod_eq_of_le (by omega) (by omega)
theorem ti_sub {x y : Int32} (h1 : -2147483648 ≤ x.toInt - y.toInt) (h2 : x.toInt - y.toInt ≤ 2147483647) : (x - y).toInt = x.toInt - y.toInt := by
  rw [Int32.toInt_sub]; exact Int.bmod_eq_of_le (by omega) (by omega)
theorem ti_mul {x y : Int32} (h1 : -2147483648 ≤ x.toInt * y.toInt) (h2 : x.toInt * y.toInt ≤ 2147483647) : (x * y).toInt = x.toInt * y.toInt := by
  rw [Int32.toInt_mul]; exact Int.bmod_eq_of_le (by omega) (by omega)
theorem ti_add1 {x : Int32} (h : x.toInt < 2147483647) : (x + 1).toInt = x.toInt + 1 := by
  have := ti_lo x
  have e : (1 : Int32).toInt = 1 := rfl
  rw [ti_add (by omega) (by omega), e]
theorem inbT {i : Int32} {n : Nat} (h1 : 0 ≤ i.toInt) (h2 : i.toInt < (n : Int)) : inb i n = true := inb_iff.mpr ⟨h1, h2⟩
theorem nx_eq {i : Int32} {n : Nat} (h : i.toInt = (n : Int)) : nx i = n := by unfold nx; omega
theorem nx_lt {i : Int32} {n : Nat} (h1 : 0 ≤ i.toInt) (h2 : i.toInt < (n : Int)) : nx i < n := by unfold nx; omega
theorem ti_nat {q : Int32} (h : 0 ≤ q.toInt) : q.toBitVec.toNat = q.toInt.toNat := by
  have e : q.toInt = q.toBitVec.toInt := rfl
  rw [BitVec.toInt_eq_toNat_cond] at e
  have := q.toBitVec.isLt
  split at e <;> omega
theorem ti_ofNat {n : Nat} (h : n < 2147483648) : (Int32.ofNat n).toInt = (n : Int) := Int32.toInt_ofNat_of_lt h
theorem eq_ofNat {x : Int32} {n : Nat} (h : x.toInt = (n : Int)) : x = Int32.ofNat n := by
  have := ti_hi x
  rw [ti_eq, ti_ofNat (by omega)]; exact h
theorem nx_ofNat {n : Nat} (h : n < 2147483648) : nx (Int32.ofNat n) = n := nx_eq (ti_ofNat h)
theorem ofNat_nx {x : Int32} (h : 0 ≤ x.toInt) : Int32.ofNat (nx x) = x := by
  have := ti_hi x
  rw [ti_eq, ti_ofNat (by unfold nx; omega)]; unfold nx; omega
theorem ofNat_succ (n : Nat) : Int32.ofNat n + 1 = Int32.ofNat (n + 1) := by
  rw [Int32.ofNat_add]; rfl
theorem ofNat_lt {a b : Nat} (ha : a < 2147483648) (hb : b < 2147483648) : Int32.ofNat a < Int32.ofNat b ↔ a < b := by
  rw [ti_lt, ti_ofNat ha, ti_ofNat hb]; omega
theorem ti_shr {x q : Int32} {k : Nat} (hq : q.toInt = (k : Int)) (hk : k < 32) : (x >>> (q &&& 31)).toInt = x.toInt / ((2 ^ k : Nat) : Int) := c_ishr x q k (by rw [ti_nat (by omega)]; omega)
theorem ti_shl {x q : Int32} {k : Nat} (hq : q.toInt = (k : Int)) (hk : k < 32) (h1 : -2147483648 ≤ x.toInt * ((2 ^ k : Nat) : Int)) (h2 : x.toInt * ((2 ^ k : Nat) : Int) ≤ 2147483647) : (x <<< (q &&& 31)).toInt = x.toInt * ((2 ^ k : Nat) : Int) := by
  have a := c_ishl x q k (by rw [ti_nat (by omega)]; omega)
  have b := ti_lo (x <<< (q &&& 31))
  have c := ti_hi (x <<< (q &&& 31))
  generalize x.toInt * ((2 ^ k : Nat) : Int) = z at *
  omega
/-- a counted loop: an invariant goes through -/
theorem loop_inv {α : Type} (L : Nat → Int32 → Sg → Option α) (body : Int32 → Sg → Option Sg) (exit : Sg → Option α) (N : Nat) (hN : N < 2147483648)
    (hL : ∀ f i σ, L (f + 1) i σ = if i < Int32.ofNat N then (body i σ).bind (fun r => L f (i + 1) r) else exit σ) (Inv : Nat → Sg → Prop)
    (hb : ∀ i σ, i < N → Inv i σ → ∃ σ', body (Int32.ofNat i) σ = some σ' ∧ Inv (i + 1) σ') :
    ∀ (k i fuel : Nat) (σ : Sg), i + k = N → k < fuel → Inv i σ → ∃ σ', L fuel (Int32.ofNat i) σ = exit σ' ∧ Inv N σ' := by
  intro k
  induction k with
  | zero =>
    intro i fuel σ h1 h2 h3
    obtain ⟨f, rfl⟩ : ∃ f, fuel = f + 1 := ⟨fuel - 1, by omega⟩
    have : i = N := by omega
    subst this
    rw [hL, if_neg (by rw [ofNat_lt hN hN]; omega)]
    exact ⟨σ, rfl, h3⟩
  | succ k ih =>
    intro i fuel σ h1 h2 h3
    obtain ⟨f, rfl⟩ : ∃ f, fuel = f + 1 := ⟨fuel - 1, by omega⟩
    obtain ⟨σ1, q1, q2⟩ := hb i σ (by omega) h3
    rw [hL, if_pos (by rw [ofNat_lt (by omega) hN]; omega), q1, Option.bind_some, ofNat_succ]
    exact ih (i + 1) f σ1 (by omega) (by omega) q2
/-! bits of longs -/
/-- bit m of a table -/
def tbL (y : Int64) (m : Nat) : Bool := y.toBitVec.getLsbD m
theorem cmp0 (x y : Int64) : XT.cmpL x y = 0 ↔ x = y := by
  unfold XT.cmpL
  by_cases h : x = y
  · subst h; simp [Int64.lt_irrefl]
  · by_cases h2 : y < x
    · simp [h, h2]
    · simp [h, h2]
theorem shL_lit : ∀ k : Fin 64, ((Int32.ofNat k.1).toInt64.toUInt64 &&& Int64.toUInt64 63) = UInt64.ofNat k.1 := by decide +kernel
theorem ushrL_bv (y : Int64) {k : Nat} (h : k < 64) : (XT.ushrL y (Int32.ofNat k)).toBitVec = y.toBitVec >>> k := by
  unfold XT.ushrL
  rw [shL_lit ⟨k, h⟩]
  show (y.toUInt64 >>> UInt64.ofNat k).toBitVec = _
  rw [UInt64.toBitVec_shiftRight]
  have : ((UInt64.ofNat k).toBitVec % 64).toNat = k := by
    rw [BitVec.toNat_umod]
    show (UInt64.ofNat k).toNat % 64 = k
    rw [UInt64.toNat_ofNat']
    omega
  rw [BitVec.ushiftRight_eq', this]
  rfl
theorem bitL (y : Int64) {k : Nat} (h : k < 64) : (XT.ushrL y (Int32.ofNat k)) &&& 1 = 0 ↔ tbL y k = false := by
  rw [← Int64.toBitVec_inj, Int64.toBitVec_and, ushrL_bv y h]
  unfold tbL
  constructor
  · intro q
    have := congrArg (fun b => b.getLsbD 0) q
    simpa using this
  · intro q
    apply BitVec.eq_of_getLsbD_eq
    intro i hi
    rw [BitVec.getLsbD_and]
    by_cases e : i = 0
    · subst e; simp [q]
    · have : (1 : Int64).toBitVec.getLsbD i = false := by
        show (1#64).getLsbD i = false
        simp [BitVec.getLsbD_one, e]
      rw [this]; simp
theorem shl_lit : ∀ k : Fin 64, ((((Int32.ofNat k.1).toInt64 &&& 63 : Int64).toBitVec.smod 64)).toNat = k.1 := by decide +kernel
theorem shl_bv (y : Int64) {k : Nat} (h : k < 64) : (y <<< ((Int32.ofNat k).toInt64 &&& 63)).toBitVec = y.toBitVec <<< k := by
  rw [Int64.toBitVec_shiftLeft, BitVec.shiftLeft_eq', shl_lit ⟨k, h⟩]
theorem tbL_shl (y : Int64) {k t : Nat} (h : k < 64) (ht : t < 64) : tbL (y <<< ((Int32.ofNat k).toInt64 &&& 63)) t = (decide (k ≤ t) && tbL y (t - k)) := by
  unfold tbL
  rw [shl_bv y h, BitVec.getLsbD_shiftLeft]
  by_cases q : t < k
  · simp [q, show ¬ k ≤ t by omega]
  · simp [q, ht, show k ≤ t by omega]
theorem tbL_or (x y : Int64) (t : Nat) : tbL (x ||| y) t = (tbL x t || tbL y t) := by unfold tbL; rw [Int64.toBitVec_or, BitVec.getLsbD_or]
theorem tbL_and (x y : Int64) (t : Nat) : tbL (x &&& y) t = (tbL x t && tbL y t) := by unfold tbL; rw [Int64.toBitVec_and, BitVec.getLsbD_and]
theorem tbL_xor (x y : Int64) (t : Nat) : tbL (x ^^^ y) t = (tbL x t ^^ tbL y t) := by unfold tbL; rw [Int64.toBitVec_xor, BitVec.getLsbD_xor]
theorem tbL_neg1 {t : Nat} (h : t < 64) : tbL (-1) t = true := by
  have : ∀ t : Fin 64, tbL (-1) t.1 = true := by decide +kernel
  exact this ⟨t, h⟩
theorem tbL_zero (t : Nat) : tbL 0 t = false := by
  unfold tbL; show (0#64).getLsbD t = false; simp
theorem tbL_one (t : Nat) : tbL 1 t = decide (t = 0) := by
  unfold tbL; show (1#64).getLsbD t = _
  by_cases h : t = 0
  · subst h; rfl
  · simp [BitVec.getLsbD_one, h]
theorem tbL_ext {x y : Int64} (h : ∀ t, t < 64 → tbL x t = tbL y t) : x = y := by
  apply Int64.toBitVec_inj.mp
  apply BitVec.eq_of_getLsbD_eq
  intro t ht
  exact h t ht
/-! bits of ints -/
def tbI (m : Int32) (i : Nat) : Bool := m.toBitVec.getLsbD i
theorem shr_lit : ∀ k : Fin 32, (((Int32.ofNat k.1 &&& 31 : Int32).toBitVec.smod 32)).toNat = k.1 := by decide +kernel
theorem shr_bit (m : Int32) {i : Nat} (h : i < 32) : (m >>> (Int32.ofNat i &&& 31)) &&& 1 = 0 ↔ tbI m i = false := by
  have e : (m >>> (Int32.ofNat i &&& 31)).toBitVec = m.toBitVec.sshiftRight i := by
    rw [Int32.toBitVec_shiftRight, BitVec.sshiftRight_eq', shr_lit ⟨i, h⟩]
  rw [← Int32.toBitVec_inj, Int32.toBitVec_and, e]
  unfold tbI
  have e0 : (m.toBitVec.sshiftRight i).getLsbD 0 = m.toBitVec.getLsbD i := by
    rw [BitVec.getLsbD_sshiftRight]; simp [h]
  constructor
  · intro q
    have := congrArg (fun b => b.getLsbD 0) q
    rw [← e0]
    simpa using this
  · intro q
    apply BitVec.eq_of_getLsbD_eq
    intro t ht
    rw [BitVec.getLsbD_and]
    by_cases z : t = 0
    · subst z; rw [e0, q]; simp
    · have : (1 : Int32).toBitVec.getLsbD t = false := by
        show (1#32).getLsbD t = false
        simp [BitVec.getLsbD_one, z]
      rw [this]; simp
theorem tbI_bit {k i : Nat} (hk : k < 32) (hi : i < 32) : tbI ((1 : Int32) <<< (Int32.ofNat k &&& 31)) i = decide (i = k) := by
  have : ∀ (k i : Fin 32), tbI ((1 : Int32) <<< (Int32.ofNat k.1 &&& 31)) i.1 = decide (i.1 = k.1) := by decide +kernel
  exact this ⟨k, hk⟩ ⟨i, hi⟩
theorem tbI_or (x y : Int32) (t : Nat) : tbI (x ||| y) t = (tbI x t || tbI y t) := by unfold tbI; rw [Int32.toBitVec_or, BitVec.getLsbD_or]
theorem tbI_and (x y : Int32) (t : Nat) : tbI (x &&& y) t = (tbI x t && tbI y t) := by unfold tbI; rw [Int32.toBitVec_and, BitVec.getLsbD_and]
theorem tbI_xor (x y : Int32) (t : Nat) : tbI (x ^^^ y) t = (tbI x t ^^ tbI y t) := by unfold tbI; rw [Int32.toBitVec_xor, BitVec.getLsbD_xor]
theorem tbI_neg1 {t : Nat} (h : t < 32) : tbI (-1) t = true := by
  have : ∀ t : Fin 32, tbI (-1) t.1 = true := by decide +kernel
  exact this ⟨t, h⟩
theorem tbI_zero (t : Nat) : tbI 0 t = false := by
  unfold tbI; show (0#32).getLsbD t = false; simp
theorem tbI_ext {x y : Int32} (h : ∀ t, t < 32 → tbI x t = tbI y t) : x = y := by
  apply Int32.toBitVec_inj.mp
  apply BitVec.eq_of_getLsbD_eq
  intro t ht
  exact h t ht
theorem tbI_ne0 {x : Int32} (h : x ≠ 0) : ∃ t, t < 32 ∧ tbI x t = true := by
  apply Classical.byContradiction
  intro q
  apply h
  refine tbI_ext fun t ht => ?_
  rw [tbI_zero]
  cases e : tbI x t with
  | false => rfl
  | true => exact absurd ⟨t, ht, e⟩ q
def cl (x lo hi : Int32) : Int32 := if x < lo then lo else if hi < x then hi else x
theorem p_clamp (x lo hi : Int32) (σ : Sg) : c_clamp x lo hi σ = some (cl x lo hi, σ) := by
  unfold c_clamp cl; split
  · rfl
  · split <;> rfl
theorem cl_bd {x lo hi : Int32} (h : lo.toInt ≤ hi.toInt) : lo.toInt ≤ (cl x lo hi).toInt ∧ (cl x lo hi).toInt ≤ hi.toInt := by
  unfold cl
  split
  · omega
  · rename_i h1
    rw [ti_lt] at h1
    split
    · omega
    · rename_i h2
      rw [ti_lt] at h2
      omega
/-- what a session's clearing leaves -/
def Cleared (σ σ' : Sg) : Prop := (∀ k j, k ≠ 6 → k ≠ 7 → k ≠ 8 → gi σ' k j = gi σ k j) ∧ (∀ k j, gj σ' k j = gj σ k j) ∧ (∀ j, j < 80 → gi σ' 6 j = 0 ∧ gi σ' 7 j = -1 ∧ gi σ' 8 j = 0)
theorem p_reset {x : Int32} (σ : Sg) (h1 : 0 ≤ x.toInt) (h2 : x.toInt < 80) : c_resetFault x σ = some (si (si (si σ 6 (nx x) 0) 7 (nx x) (-1)) 8 (nx x) 0) := by
  unfold c_resetFault
  rw [if_neg (by rw [ti_lt]; simp; omega), if_pos (by rw [ti_lt]; simp; omega)]
  simp only [inbT h1 (show x.toInt < ((80 : Nat) : Int) from h2), if_true]
theorem p_clear_loop (k : Nat) : ∀ (fuel : Nat) (i : Int32) (σ : Sg), i.toInt + k = 80 → 0 ≤ i.toInt → k < fuel →
    ∃ σ', c_clearSession_20 fuel i σ = some σ' ∧ (∀ k j, k ≠ 6 → k ≠ 7 → k ≠ 8 → gi σ' k j = gi σ k j) ∧ (∀ k j, gj σ' k j = gj σ k j) ∧ (∀ j : Nat, i.toInt ≤ j → j < 80 → gi σ' 6 j = 0 ∧ gi σ' 7 j = -1 ∧ gi σ' 8 j = 0) ∧ ∀ k j : Nat, (j : Int) < i.toInt → gi σ' k j = gi σ k j := by
  induction k with
  | zero =>
    intro fuel i σ h1 h2 h3
    obtain ⟨f, rfl⟩ : ∃ f, fuel = f + 1 := ⟨fuel - 1, by omega⟩
    rw [c_clearSession_20, if_neg (by rw [ti_lt]; simp; omega)]
    exact ⟨σ, rfl, fun _ _ _ _ _ => rfl, fun _ _ => rfl, fun j a b => by omega, fun _ _ _ => rfl⟩
  | succ k ih =>
    intro fuel i σ h1 h2 h3
    obtain ⟨f, rfl⟩ : ∃ f, fuel = f + 1 := ⟨fuel - 1, by omega⟩
    rw [c_clearSession_20, if_pos (by rw [ti_lt]; simp; omega), p_reset σ h2 (by omega), Option.bind_some]
    have e1 : (i + 1).toInt = i.toInt + 1 := ti_add1 (by omega)
    obtain ⟨σ', q1, q2, q3, q4, q5⟩ := ih f (i + 1) (si (si (si σ 6 (nx i) 0) 7 (nx i) (-1)) 8 (nx i) 0) (by omega) (by omega) (by omega)
    have en : ((nx i : Nat) : Int) = i.toInt := by unfold nx; omega
    refine ⟨σ', q1, fun k j a b c => ?_, fun k j => ?_, fun j a b => ?_, fun k j a => ?_⟩
    · rw [q2 k j a b c]; simp [gi_si, a, b, c]
    · rw [q3]; rfl
    · by_cases e : (j : Int) = i.toInt
      · have ej : j = nx i := by omega
        rw [q5 6 j (by omega), q5 7 j (by omega), q5 8 j (by omega)]
        subst ej
        simp [gi_si]
      · exact q4 j (by omega) b
    · rw [q5 k j (by omega)]
      have ej : j ≠ nx i := by omega
      simp [gi_si, ej]
theorem p_clear (σ : Sg) : ∃ σ', c_clearSession σ = some σ' ∧ Cleared (si (si (si σ 0 17 0) 0 18 (gi σ 0 15)) 0 19 0) σ' := by
  obtain ⟨σ', q1, q2, q3, q4, -⟩ := p_clear_loop 80 400 0 (si (si (si σ 0 17 0) 0 18 (gi σ 0 15)) 0 19 0) rfl (by decide) (by decide)
  exact ⟨σ', q1, q2, q3, fun j h => q4 j (by simp) h⟩
/-- a new object -/
def Fresh (σ : Sg) (a b c : Int32) : Prop := gi σ 0 9 = cl a 1 8 ∧ gi σ 0 10 = cl b 8 32 ∧ gi σ 0 11 = cl c 1 16 ∧ gi σ 0 12 = (1 : Int32) <<< (cl c 1 16 &&& 31) - 1 ∧ gi σ 0 13 = 0 ∧ gi σ 0 14 = 0 ∧ gi σ 0 15 = 44257 ∧ gi σ 0 16 = (1 : Int32) <<< (cl c 1 16 &&& 31) - 1 ∧ gi σ 0 17 = 0 ∧ gi σ 0 18 = 44257 ∧ gi σ 0 19 = 0 ∧
  (∀ k j, 1 ≤ k → k ≤ 5 → gi σ k j = 0) ∧ (∀ k j, gj σ k j = 0) ∧ (∀ j, j < 80 → gi σ 6 j = 0 ∧ gi σ 7 j = -1 ∧ gi σ 8 j = 0)
theorem p_init (a b c : Int32) : ∃ σ, c_init a b c = some σ ∧ Fresh σ a b c := by
  unfold c_init
  simp only [p_clamp, Option.bind_some]
  obtain ⟨σ', q1, q2, q3, q4⟩ := p_clear (si (si (si (si (si (si (si (si zs 0 9 (cl a 1 8)) 0 10 (cl b 8 32)) 0 11 (cl c 1 16)) 0 12 (((1 : Int32) <<< ((cl c 1 16) &&& 31)) - (1 : Int32))) 0 13 (0 : Int32)) 0 14 (0 : Int32)) 0 15 (44257 : Int32)) 0 16 (((1 : Int32) <<< ((cl c 1 16) &&& 31)) - (1 : Int32)))
  rw [q1]
  refine ⟨σ', rfl, ?_⟩
  have z : ∀ j, gi σ' 0 j = _ := fun j => q2 0 j (by decide) (by decide) (by decide)
  refine ⟨?_, ?_, ?_, ?_, ?_, ?_, ?_, ?_, ?_, ?_, ?_, fun k j h1 h2 => ?_, fun k j => ?_, q4⟩
  any_goals (refine (z _).trans ?_; simp [gi_si])
  · rw [q2 k j (by omega) (by omega) (by omega)]; simp [gi_si, gi_zs, show k ≠ 0 by omega]
  · rw [q3]; rfl
/-! LogicBist: the plain questions -/
def sc (σ : Sg) : Int32 := gi σ 0 9 + gi σ 0 13
theorem p_fc {σ : Sg} : c_faultCount σ = some (2 * sc σ, σ) := rfl
theorem p_gfc {σ : Sg} : c_getFaultCount σ = some (2 * sc σ, σ) := rfl
theorem p_isF (x : Int32) (σ : Sg) : c_isFault x σ = some (if x < 0 then 0 else if x < 2 * sc σ then 1 else 0, σ) := by
  unfold c_isFault
  rw [p_fc]
  split
  · rfl
  · simp only [Option.bind_some]; split <;> rfl
/-! LogicBist: a session's steps, as far as bounds and detections go -/
/-- the figures are in their bounds -/
def LOk (σ : Sg) : Prop := 1 ≤ (gi σ 0 9).toInt ∧ (gi σ 0 9).toInt ≤ 8 ∧ 0 ≤ (gi σ 0 13).toInt ∧ (gi σ 0 13).toInt ≤ 32 ∧ 0 ≤ (gi σ 0 14).toInt ∧ (gi σ 0 14).toInt ≤ 8 ∧ 1 ≤ (gi σ 0 11).toInt ∧ (gi σ 0 11).toInt ≤ 16
theorem sc_ti {σ : Sg} (H : LOk σ) : (sc σ).toInt = (gi σ 0 9).toInt + (gi σ 0 13).toInt := by
  obtain ⟨a, b, c, d, -⟩ := H
  unfold sc
  exact ti_add (by omega) (by omega)
theorem p_lane (x : Int32) (σ : Sg) : ∃ y, c_loadLane x σ = some (y, σ) := by
  unfold c_loadLane
  by_cases a : x < 0
  · exact ⟨_, by rw [if_pos a]⟩
  · by_cases b : x < 40
    · rw [ti_lt] at a b
      have e0 : (0 : Int32).toInt = 0 := rfl
      have e40 : (40 : Int32).toInt = 40 := rfl
      exact ⟨_, by rw [if_neg (by rw [ti_lt]; exact a), if_pos (by rw [ti_lt]; exact b), if_pos (inbT (by omega) (show x.toInt < ((40 : Nat) : Int) by omega))]⟩
    · exact ⟨_, by rw [if_neg a, if_neg b]⟩
theorem p_comb (k : Int32) (a b : Int64) (σ : Sg) : ∃ y, c_combine k a b σ = some (y, σ) := by
  unfold c_combine
  split
  · exact ⟨_, rfl⟩
  split
  · exact ⟨_, rfl⟩
  split
  · exact ⟨_, rfl⟩
  split
  · exact ⟨_, rfl⟩
  split
  · exact ⟨_, rfl⟩
  split
  · exact ⟨_, rfl⟩
  split
  · exact ⟨_, rfl⟩
  · exact ⟨_, rfl⟩
theorem p_twoE (x : Int32) (σ : Sg) : ∃ z, c_isTwoOperand x σ = some (z, σ) := by
  unfold c_isTwoOperand
  split
  · exact ⟨_, rfl⟩
  split <;> exact ⟨_, rfl⟩
theorem p_gateLane (x : Int32) (σ : Sg) : ∃ y, c_gateLane x σ = some (y, σ) := by
  unfold c_gateLane
  by_cases a : x < 0
  · exact ⟨_, by rw [if_pos a]⟩
  · by_cases b : x < 32
    · rw [ti_lt] at a b
      have e0 : (0 : Int32).toInt = 0 := rfl
      have e32 : (32 : Int32).toInt = 32 := rfl
      rw [if_neg (by rw [ti_lt]; exact a), if_pos (by rw [ti_lt]; exact b), if_pos (inbT (by omega) (show x.toInt < ((32 : Nat) : Int) by omega))]
      obtain ⟨y1, q1⟩ := p_lane (gi σ 2 (nx x)) σ
      obtain ⟨z, q2⟩ := p_twoE (gi σ 1 (nx x)) σ
      obtain ⟨y3, q3⟩ := p_lane (gi σ 3 (nx x)) σ
      rw [q1, Option.bind_some]
      simp only []
      rw [q2, Option.bind_some]
      simp only []
      unfold c_gateLane_53
      split
      · obtain ⟨y, q⟩ := p_comb (gi σ 1 (nx x)) y1 0 σ
        exact ⟨y, by rw [q]; rfl⟩
      · rw [q3, Option.bind_some]
        obtain ⟨y, q⟩ := p_comb (gi σ 1 (nx x)) y1 y3 σ
        exact ⟨y, by simp only []; rw [q]; rfl⟩
    · exact ⟨_, by rw [if_neg a, if_neg b]⟩
theorem p_inLane (b x : Int32) (σ : Sg) : ∃ y, c_inputLane b x σ = some (y, σ) := by
  unfold c_inputLane
  split
  · exact ⟨_, rfl⟩
  split
  · exact ⟨_, rfl⟩
  split <;> exact ⟨_, rfl⟩
theorem p_force (y : Int64) (s g : Int32) (σ : Sg) : ∃ z, c_forceLane y s g σ = some (z, σ) := by
  unfold c_forceLane
  split
  · exact ⟨_, rfl⟩
  split
  · exact ⟨_, rfl⟩
  split <;> exact ⟨_, rfl⟩
/-- only lanes change -/
def OnlyL (σ σ' : Sg) : Prop := (∀ k j, gi σ' k j = gi σ k j) ∧ ∀ k j, k ≠ 9 → gj σ' k j = gj σ k j
theorem OnlyL.refl (σ : Sg) : OnlyL σ σ := ⟨fun _ _ => rfl, fun _ _ _ => rfl⟩
theorem OnlyL.trans {σ σ' σ'' : Sg} (a : OnlyL σ σ') (b : OnlyL σ' σ'') : OnlyL σ σ'' := ⟨fun k j => (b.1 k j).trans (a.1 k j), fun k j h => (b.2 k j h).trans (a.2 k j h)⟩
theorem p_eval_loop (k : Nat) : ∀ (fuel : Nat) (b g n s : Int32) (σ : Sg), s.toInt + k = 40 → 0 ≤ s.toInt → k < fuel → ∃ σ', c_evaluateGroup_8 fuel b g n s σ = some σ' ∧ OnlyL σ σ' := by
  have e40 : (40 : Int32).toInt = 40 := rfl
  induction k with
  | zero =>
    intro fuel b g n s σ h1 h2 h3
    obtain ⟨f, rfl⟩ : ∃ f, fuel = f + 1 := ⟨fuel - 1, by omega⟩
    rw [c_evaluateGroup_8]
    refine ⟨σ, ?_, OnlyL.refl σ⟩
    split
    · rw [if_neg (by rw [ti_lt]; omega)]
    · rfl
  | succ k ih =>
    intro fuel b g n s σ h1 h2 h3
    obtain ⟨f, rfl⟩ : ∃ f, fuel = f + 1 := ⟨fuel - 1, by omega⟩
    have e1 : (s + 1).toInt = s.toInt + 1 := ti_add1 (by omega)
    have key : ∀ y : Int64, ∃ σ', c_evaluateGroup_55 (c_evaluateGroup_8 f) b g n s y σ = some σ' ∧ OnlyL σ σ' := by
      intro y
      unfold c_evaluateGroup_55
      obtain ⟨z, q⟩ := p_force y s g σ
      rw [q, Option.bind_some, if_pos (inbT h2 (show s.toInt < ((40 : Nat) : Int) by omega))]
      obtain ⟨σ', q', O⟩ := ih f b g n (s + 1) (sj σ 9 (nx s) z) (by omega) (by omega) (by omega)
      exact ⟨σ', q', fun k j => O.1 k j, fun k j ne => by rw [O.2 k j ne, gj_sj, if_neg (fun w => ne w.1)]⟩
    rw [c_evaluateGroup_8]
    split
    · rw [if_pos (by rw [ti_lt]; omega)]
      split
      · obtain ⟨y, q⟩ := p_inLane b s σ
        rw [q, Option.bind_some]; exact key y
      · obtain ⟨y, q⟩ := p_gateLane (s - gi σ 0 9) σ
        rw [q, Option.bind_some]; exact key y
    · exact ⟨σ, rfl, OnlyL.refl σ⟩
theorem p_eval (b g : Int32) (σ : Sg) : ∃ σ', c_evaluateGroup b g σ = some σ' ∧ OnlyL σ σ' :=
  p_eval_loop 40 400 b g _ 0 σ rfl (by decide) (by decide)
theorem p_outw_loop (k : Nat) : ∀ (fuel : Nat) (x w j : Int32) (σ : Sg), j.toInt + k = 8 → 0 ≤ j.toInt → k < fuel → ∃ z, c_outputWordAt_16 fuel x w j σ = some (z, σ) := by
  have e8 : (8 : Int32).toInt = 8 := rfl
  induction k with
  | zero =>
    intro fuel x w j σ h1 h2 h3
    obtain ⟨f, rfl⟩ : ∃ f, fuel = f + 1 := ⟨fuel - 1, by omega⟩
    rw [c_outputWordAt_16]
    refine ⟨w, ?_⟩
    split
    · rw [if_neg (by rw [ti_lt]; omega)]
    · rfl
  | succ k ih =>
    intro fuel x w j σ h1 h2 h3
    obtain ⟨f, rfl⟩ : ∃ f, fuel = f + 1 := ⟨fuel - 1, by omega⟩
    have e1 : (j + 1).toInt = j.toInt + 1 := ti_add1 (by omega)
    rw [c_outputWordAt_16]
    split
    · rw [if_pos (by rw [ti_lt]; omega), if_pos (inbT h2 (show j.toInt < ((8 : Nat) : Int) by omega))]
      obtain ⟨y, q⟩ := p_lane (gi σ 4 (nx j)) σ
      rw [q, Option.bind_some]
      unfold c_outputWordAt_59
      split <;> exact ih f x _ (j + 1) σ (by omega) (by omega) (by omega)
    · exact ⟨w, rfl⟩
theorem p_outw (x : Int32) (σ : Sg) : ∃ z, c_outputWordAt x σ = some (z, σ) := by
  unfold c_outputWordAt
  split
  · exact ⟨_, rfl⟩
  split
  · exact ⟨_, rfl⟩
  · exact p_outw_loop 8 400 x 0 0 σ rfl (by decide) (by decide)
theorem p_misr_loop (k : Nat) : ∀ (fuel : Nat) (r x j : Int32) (σ : Sg), j.toInt + k = 8 → 0 ≤ j.toInt → k < fuel → gi σ 0 11 ≠ 0 → ∃ z, c_misrStep_26 fuel r x j σ = some (z, σ) := by
  have e8 : (8 : Int32).toInt = 8 := rfl
  induction k with
  | zero =>
    intro fuel r x j σ h1 h2 h3 hw
    obtain ⟨f, rfl⟩ : ∃ f, fuel = f + 1 := ⟨fuel - 1, by omega⟩
    rw [c_misrStep_26]
    refine ⟨x, ?_⟩
    split
    · rw [if_neg (by rw [ti_lt]; omega)]
    · rfl
  | succ k ih =>
    intro fuel r x j σ h1 h2 h3 hw
    obtain ⟨f, rfl⟩ : ∃ f, fuel = f + 1 := ⟨fuel - 1, by omega⟩
    have e1 : (j + 1).toInt = j.toInt + 1 := ti_add1 (by omega)
    rw [c_misrStep_26]
    split
    · rw [if_pos (by rw [ti_lt]; omega)]
      unfold c_misrStep_65
      split
      · exact ih f r x (j + 1) σ (by omega) (by omega) (by omega) hw
      · first | exact ih f r _ (j + 1) σ (by omega) (by omega) (by omega) hw | (rw [if_neg hw]; exact ih f r _ (j + 1) σ (by omega) (by omega) (by omega) hw)
    · exact ⟨x, rfl⟩
theorem p_misr (s r : Int32) (σ : Sg) (hw : gi σ 0 11 ≠ 0) : ∃ z, c_misrStep s r σ = some (z, σ) := by
  unfold c_misrStep c_misrStep_23
  split <;> exact p_misr_loop 8 400 r _ 0 σ rfl (by decide) (by decide) hw
/-- detections are noted with p; nothing else than the faults' records changes -/
def RecK (p : Int32) (σ σ' : Sg) : Prop := (∀ k j, k ≠ 6 → k ≠ 7 → k ≠ 8 → gi σ' k j = gi σ k j) ∧ ∀ f, (gi σ' 8 f = gi σ 8 f ∧ gi σ' 7 f = gi σ 7 f) ∨ (gi σ 8 f = 0 ∧ gi σ' 8 f = 1 ∧ gi σ' 7 f = p)
theorem RecK.refl (p : Int32) (σ : Sg) : RecK p σ σ := ⟨fun _ _ _ _ _ => rfl, fun _ => Or.inl ⟨rfl, rfl⟩⟩
theorem RecK.trans {p : Int32} {σ σ' σ'' : Sg} (a : RecK p σ σ') (b : RecK p σ' σ'') : RecK p σ σ'' := by
  refine ⟨fun k j x y z => (b.1 k j x y z).trans (a.1 k j x y z), fun f => ?_⟩
  rcases a.2 f with ⟨a1, a2⟩ | ⟨a1, a2, a3⟩
  · rcases b.2 f with ⟨b1, b2⟩ | ⟨b1, b2, b3⟩
    · exact Or.inl ⟨b1.trans a1, b2.trans a2⟩
    · exact Or.inr ⟨by rw [← a1]; exact b1, b2, b3⟩
  · rcases b.2 f with ⟨b1, b2⟩ | ⟨b1, b2, b3⟩
    · exact Or.inr ⟨a1, b1.trans a2, b2.trans a3⟩
    · rw [a2] at b1; exact absurd b1 (by decide)
theorem RecK.ofL {p : Int32} {σ σ' : Sg} (a : OnlyL σ σ') : RecK p σ σ' := ⟨fun k j _ _ _ => a.1 k j, fun f => Or.inl ⟨a.1 8 f, a.1 7 f⟩⟩
theorem p_rec_loop (k : Nat) : ∀ (fuel : Nat) (g p a e f : Int32) (σ : Sg), f.toInt + k = 80 → 0 ≤ f.toInt → k < fuel → gi σ 0 11 ≠ 0 → ∃ σ', c_recordGroup_18 fuel g p a e f σ = some σ' ∧ RecK p σ σ' := by
  have e80 : (80 : Int32).toInt = 80 := rfl
  have e0 : (0 : Int32).toInt = 0 := rfl
  induction k with
  | zero =>
    intro fuel g p a e f σ h1 h2 h3 hw
    obtain ⟨n, rfl⟩ : ∃ n, fuel = n + 1 := ⟨fuel - 1, by omega⟩
    rw [c_recordGroup_18]
    refine ⟨σ, ?_, RecK.refl p σ⟩
    split
    · rw [if_neg (by rw [ti_lt]; omega)]
    · rfl
  | succ k ih =>
    intro fuel g p a e f σ h1 h2 h3 hw
    obtain ⟨n, rfl⟩ : ∃ n, fuel = n + 1 := ⟨fuel - 1, by omega⟩
    have e1 : (f + 1).toInt = f.toInt + 1 := ti_add1 (by omega)
    rw [c_recordGroup_18]
    split
    · rw [if_pos (by rw [ti_lt]; omega), if_neg (by rw [ti_lt]; omega)]
      obtain ⟨r, q1⟩ := p_outw (f - a) σ
      rw [q1, Option.bind_some, if_pos (inbT h2 (show f.toInt < ((80 : Nat) : Int) by omega))]
      simp only []
      obtain ⟨z, q2⟩ := p_misr (gi σ 6 (nx f)) r σ hw
      rw [q2, Option.bind_some]
      simp only []
      unfold c_recordGroup_103
      have go : ∀ σ1 : Sg, RecK p σ σ1 → gi σ1 0 11 = gi σ 0 11 → ∃ σ', c_recordGroup_18 n g p a e (f + 1) σ1 = some σ' ∧ RecK p σ σ' := by
        intro σ1 K1 hw1
        obtain ⟨σ', q, K⟩ := ih n g p a e (f + 1) σ1 (by omega) (by omega) (by omega) (by rw [hw1]; exact hw)
        exact ⟨σ', q, K1.trans K⟩
      have K6 : RecK p σ (si σ 6 (nx f) z) := ⟨fun k j x _ _ => by rw [gi_si, if_neg (fun w => x w.1)], fun t => Or.inl ⟨by rw [gi_si, if_neg (by simp)], by rw [gi_si, if_neg (by simp)]⟩⟩
      split
      · exact go _ K6 (by rw [gi_si, if_neg (by simp)])
      · split
        · rename_i hz
          refine go _ ⟨fun k j x y w => by simp [gi_si, x, y, w], fun t => ?_⟩ (by simp [gi_si])
          by_cases et : t = nx f
          · subst et; exact Or.inr ⟨hz, by simp [gi_si], by simp [gi_si]⟩
          · exact Or.inl ⟨by simp [gi_si, et], by simp [gi_si, et]⟩
        · exact go _ K6 (by rw [gi_si, if_neg (by simp)])
    · exact ⟨σ, rfl, RecK.refl p σ⟩
theorem p_rec {x g p : Int32} {σ : Sg} (hx : x = 0 ∨ x = 1) (hw : gi σ 0 11 ≠ 0) : ∃ σ', c_recordGroup x g p σ = some σ' ∧ RecK p σ σ' := by
  have hg : ∀ {β : Type} (f : Int32 × Sg → Option β), (c_groupFirst x σ).bind f = f (x <<< ((6 : Int32) &&& 31), σ) := fun f => rfl
  have he : ∃ e, c_groupEnd x σ = some (e, σ) := by
    unfold c_groupEnd
    rw [hg, p_fc, Option.bind_some]
    by_cases h : 2 * sc σ < x <<< ((6 : Int32) &&& 31) + 64
    · exact ⟨_, if_pos h⟩
    · exact ⟨_, if_neg h⟩
  obtain ⟨e, he⟩ := he
  unfold c_recordGroup
  rw [hg]
  simp only []
  rw [he, Option.bind_some]
  have k0 : (0 : Int32) <<< ((6 : Int32) &&& 31) = 0 := by decide
  have k1 : (1 : Int32) <<< ((6 : Int32) &&& 31) = 64 := by decide
  have e64 : (64 : Int32).toInt = 64 := rfl
  have e00 : (0 : Int32).toInt = 0 := rfl
  rcases hx with rfl | rfl
  · simp only [k0]; exact p_rec_loop 80 400 g p 0 e 0 σ (by omega) (by omega) (by omega) hw
  · simp only [k1]; exact p_rec_loop 16 400 g p 64 e 64 σ (by omega) (by omega) (by omega) hw
def lstep (l : Int32) : Int32 := if l &&& 1 = 1 then XT.ushr l 1 ^^^ 46080 else XT.ushr l 1
theorem p_lfsr (l : Int32) (σ : Sg) : c_lfsrStep l σ = some (lstep l, σ) := by
  unfold c_lfsrStep lstep
  split <;> rfl
/-- one pattern: the count, the register and the detections -/
def PatK (σ σ' : Sg) : Prop := gi σ' 0 17 = gi σ 0 17 + 1 ∧ gi σ' 0 18 = lstep (gi σ 0 18) ∧ (∀ j, j ≠ 17 → j ≠ 18 → j ≠ 19 → gi σ' 0 j = gi σ 0 j) ∧ (∀ k j, 1 ≤ k → k ≤ 5 → gi σ' k j = gi σ k j) ∧ (∀ f, (gi σ' 8 f = gi σ 8 f ∧ gi σ' 7 f = gi σ 7 f) ∨ (gi σ 8 f = 0 ∧ gi σ' 8 f = 1 ∧ gi σ' 7 f = gi σ 0 17)) ∧ ∃ g s1, OnlyL σ s1 ∧ c_misrStep (gi σ 0 19) g s1 = some (gi σ' 0 19, s1)
theorem p_pat {σ : Sg} (hw : gi σ 0 11 ≠ 0) : ∃ σ', c_applyPattern σ = some σ' ∧ PatK σ σ' := by
  obtain ⟨σ1, q1, O1⟩ := p_eval (gi σ 0 18) (-1) σ
  obtain ⟨g, q2⟩ := p_outw 0 σ1
  obtain ⟨z, q3⟩ := p_misr (gi σ1 0 19) g σ1 (by rw [O1.1]; exact hw)
  unfold c_applyPattern
  rw [q1, Option.bind_some, q2, Option.bind_some]
  simp only []
  rw [q3, Option.bind_some]
  simp only []
  have hgc : ∃ n, c_groupCount (si σ1 0 19 z) = some (n, si σ1 0 19 z) := ⟨_, rfl⟩
  obtain ⟨n, q4⟩ := hgc
  rw [q4, Option.bind_some]
  simp only []
  -- a state behind the groups
  have fin : ∀ s : Sg, RecK (gi σ 0 17) (si σ1 0 19 z) s → ∃ σ', c_applyPattern_78 (gi σ 0 17) s = some σ' ∧ PatK σ σ' := by
    intro s K
    unfold c_applyPattern_78
    rw [p_lfsr, Option.bind_some]
    have k0 : ∀ j, j ≠ 19 → gi s 0 j = gi σ 0 j := fun j h => by rw [K.1 0 j (by decide) (by decide) (by decide), gi_si, if_neg (fun w => h w.2), O1.1]
    refine ⟨_, rfl, by simp [gi_si], by rw [gi_si, if_pos ⟨rfl, rfl⟩, k0 18 (by decide)], fun j a b c => by simp only [gi_si]; rw [if_neg (fun w => b w.2), if_neg (fun w => a w.2), k0 j c], fun k j a b => ?_, fun f => ?_, g, σ1, O1, ?_⟩
    · simp only [gi_si]
      rw [if_neg (by omega), if_neg (by omega), K.1 k j (by omega) (by omega) (by omega), gi_si, if_neg (by omega), O1.1]
    · have d8 : gi (si (si s 0 17 (gi σ 0 17 + 1)) 0 18 (lstep (gi s 0 18))) 8 f = gi s 8 f := by simp [gi_si]
      have d7 : gi (si (si s 0 17 (gi σ 0 17 + 1)) 0 18 (lstep (gi s 0 18))) 7 f = gi s 7 f := by simp [gi_si]
      have b8 : gi (si σ1 0 19 z) 8 f = gi σ 8 f := by rw [gi_si, if_neg (by simp), O1.1]
      have b7 : gi (si σ1 0 19 z) 7 f = gi σ 7 f := by rw [gi_si, if_neg (by simp), O1.1]
      rw [d8, d7]
      have := K.2 f
      rw [b8, b7] at this
      exact this
    · have d19 : gi (si (si s 0 17 (gi σ 0 17 + 1)) 0 18 (lstep (gi s 0 18))) 0 19 = z := by
        simp only [gi_si]
        rw [if_neg (by simp), if_neg (by simp), K.1 0 19 (by decide) (by decide) (by decide), gi_si, if_pos ⟨rfl, rfl⟩]
      rw [d19, ← O1.1 0 19]; exact q3
  have hw' : ∀ s : Sg, RecK (gi σ 0 17) (si σ1 0 19 z) s → gi s 0 11 ≠ 0 := fun s K => by rw [K.1 0 11 (by decide) (by decide) (by decide), gi_si, if_neg (by simp), O1.1]; exact hw
  have step : ∀ (x : Int32) (s : Sg), x = 0 ∨ x = 1 → RecK (gi σ 0 17) (si σ1 0 19 z) s → ∃ s1 s2, c_evaluateGroup (gi σ 0 18) x s = some s1 ∧ c_recordGroup x g (gi σ 0 17) s1 = some s2 ∧ RecK (gi σ 0 17) (si σ1 0 19 z) s2 := by
    intro x s hx K
    obtain ⟨s1, r1, O⟩ := p_eval (gi σ 0 18) x s
    obtain ⟨s2, r2, K2⟩ := p_rec (x := x) (g := g) (p := gi σ 0 17) (σ := s1) hx (by rw [O.1]; exact hw' s K)
    exact ⟨s1, s2, r1, r2, K.trans ((RecK.ofL O).trans K2)⟩
  have K0 := RecK.refl (gi σ 0 17) (si σ1 0 19 z)
  rw [c_applyPattern_44]
  split
  · rw [if_pos (by decide)]
    obtain ⟨s1, s2, r1, r2, K2⟩ := step 0 _ (Or.inl rfl) K0
    rw [r1, Option.bind_some, r2, Option.bind_some, c_applyPattern_44]
    split
    · rw [if_pos (by decide)]
      obtain ⟨s3, s4, r3, r4, K4⟩ := step (0 + 1) _ (Or.inr rfl) K2
      rw [r3, Option.bind_some, r4, Option.bind_some, c_applyPattern_44]
      split
      · rw [if_neg (by decide)]; exact fin _ K4
      · exact fin _ K4
    · exact fin _ K2
  · exact fin _ K0
def lsteps : Nat → Int32 → Int32
  | 0, l => l
  | n + 1, l => lsteps n (lstep l)
/-- k patterns -/
def RunK (k : Nat) (σ σ' : Sg) : Prop := gi σ' 0 17 = gi σ 0 17 + Int32.ofNat k ∧ gi σ' 0 18 = lsteps k (gi σ 0 18) ∧ (∀ j, j ≠ 17 → j ≠ 18 → j ≠ 19 → gi σ' 0 j = gi σ 0 j) ∧ (∀ k j, 1 ≤ k → k ≤ 5 → gi σ' k j = gi σ k j) ∧ ∀ f, (gi σ' 8 f = gi σ 8 f ∧ gi σ' 7 f = gi σ 7 f) ∨ (gi σ' 8 f = 1 ∧ ∃ t, t < k ∧ gi σ' 7 f = gi σ 0 17 + Int32.ofNat t)
theorem p_run_loop (k : Nat) : ∀ (fuel : Nat) (n i : Int32) (σ : Sg), i.toInt + k = n.toInt → 0 ≤ i.toInt → n.toInt ≤ 64 → k < fuel → gi σ 0 11 ≠ 0 → ∃ σ', c_run_24 fuel n i σ = some (gi σ' 0 17, σ') ∧ RunK k σ σ' ∧ ∀ Inv : Sg → Prop, (∀ a b, PatK a b → Inv a → Inv b) → Inv σ → Inv σ' := by
  have e64 : (64 : Int32).toInt = 64 := rfl
  induction k with
  | zero =>
    intro fuel n i σ h1 h2 h3 h4 hw
    obtain ⟨f, rfl⟩ : ∃ f, fuel = f + 1 := ⟨fuel - 1, by omega⟩
    rw [c_run_24, if_neg (by rw [ti_lt]; omega)]
    exact ⟨σ, rfl, ⟨by rw [show Int32.ofNat 0 = 0 from rfl, Int32.add_zero], rfl, fun _ _ _ _ => rfl, fun _ _ _ _ => rfl, fun f => Or.inl ⟨rfl, rfl⟩⟩, fun _ _ h => h⟩
  | succ k ih =>
    intro fuel n i σ h1 h2 h3 h4 hw
    obtain ⟨f, rfl⟩ : ∃ f, fuel = f + 1 := ⟨fuel - 1, by omega⟩
    have e1 : (i + 1).toInt = i.toInt + 1 := ti_add1 (by omega)
    obtain ⟨σ1, q1, PP⟩ := p_pat hw
    obtain ⟨P1, P2, P3, P4, P5, -⟩ := id PP
    rw [c_run_24, if_pos (by rw [ti_lt]; omega), if_pos (by rw [ti_lt]; omega), q1, Option.bind_some]
    obtain ⟨σ', q, ⟨R1, R2, R3, R4, R5⟩, RI⟩ := ih f n (i + 1) σ1 (by omega) (by omega) h3 (by omega) (by rw [P3 11 (by decide) (by decide) (by decide)]; exact hw)
    have hadd : ∀ t : Nat, gi σ 0 17 + 1 + Int32.ofNat t = gi σ 0 17 + Int32.ofNat (t + 1) := fun t => by
      rw [← ofNat_succ, Int32.add_assoc, Int32.add_comm 1]
    refine ⟨σ', q, ⟨by rw [R1, P1, hadd], by rw [R2, P2]; rfl, fun j a b c => (R3 j a b c).trans (P3 j a b c), fun k j a b => (R4 k j a b).trans (P4 k j a b), fun t => ?_⟩, fun Inv hs h => RI Inv hs (hs _ _ PP h)⟩
    rcases R5 t with ⟨a1, a2⟩ | ⟨a1, u, a2, a3⟩
    · rcases P5 t with ⟨b1, b2⟩ | ⟨b1, b2, b3⟩
      · exact Or.inl ⟨a1.trans b1, a2.trans b2⟩
      · exact Or.inr ⟨a1.trans b2, 0, by omega, by rw [a2, b3, show Int32.ofNat 0 = 0 from rfl, Int32.add_zero]⟩
    · exact Or.inr ⟨a1, u + 1, by omega, by rw [a3, P1, hadd]⟩
theorem p_run {n : Int32} {σ : Sg} (hw : gi σ 0 11 ≠ 0) : (c_run n σ = some (-1, σ) ∧ ¬ (1 ≤ n.toInt ∧ n.toInt ≤ 64 ∧ gi σ 0 14 ≠ 0)) ∨ (1 ≤ n.toInt ∧ n.toInt ≤ 64 ∧ gi σ 0 14 ≠ 0 ∧ ∃ σ', c_run n σ = some (gi σ' 0 17, σ') ∧ RunK (nx n) σ σ' ∧ ∀ Inv : Sg → Prop, (∀ a b, PatK a b → Inv a → Inv b) → Inv σ → Inv σ') := by
  have e1 : (1 : Int32).toInt = 1 := rfl
  have e64 : (64 : Int32).toInt = 64 := rfl
  unfold c_run
  by_cases a : n < 1
  · left; rw [if_pos a]; rw [ti_lt] at a; exact ⟨rfl, by omega⟩
  · rw [if_neg a]; rw [ti_lt] at a
    by_cases b : 64 < n
    · left; rw [if_pos b]; rw [ti_lt] at b; exact ⟨rfl, by omega⟩
    · rw [if_neg b]; rw [ti_lt] at b
      by_cases c : gi σ 0 14 = 0
      · left; rw [if_pos c]; exact ⟨rfl, fun q => q.2.2 c⟩
      · right
        rw [if_neg c]
        exact ⟨by omega, by omega, c, p_run_loop (nx n) 400 n 0 σ (by unfold nx; show (0 : Int) + _ = _; omega) (by decide) (by omega) (by unfold nx; omega) hw⟩
/-! counting -/
def cntF (P : Nat → Bool) : Nat → Nat
  | 0 => 0
  | n + 1 => cntF P n + (if P n = true then 1 else 0)
theorem cntF_le (P : Nat → Bool) (n : Nat) : cntF P n ≤ n := by
  induction n with
  | zero => exact Nat.le_refl _
  | succ n ih => unfold cntF; split <;> omega
theorem cntF_congr {P Q : Nat → Bool} {n : Nat} (h : ∀ i, i < n → P i = Q i) : cntF P n = cntF Q n := by
  induction n with
  | zero => rfl
  | succ n ih => unfold cntF; rw [ih fun i hi => h i (by omega), h n (by omega)]
theorem sc2 {σ : Sg} (H : LOk σ) : 2 * sc σ = Int32.ofNat (2 * ((gi σ 0 9).toInt + (gi σ 0 13).toInt).toNat) := by
  have h := sc_ti H
  obtain ⟨a, b, c, d, -⟩ := H
  have e2 : (2 : Int32).toInt = 2 := rfl
  refine eq_ofNat ?_
  rw [ti_mul (by rw [e2, h]; omega) (by rw [e2, h]; omega), e2, h]
  omega
def scN (σ : Sg) : Nat := ((gi σ 0 9).toInt + (gi σ 0 13).toInt).toNat
theorem p_fdo {f : Nat} (h : f < 80) (σ : Sg) : c_firstDetectOf (Int32.ofNat f) σ = some (if gi σ 8 f = 0 then -1 else gi σ 7 f, σ) := by
  have ef := ti_ofNat (n := f) (by omega)
  have e0 : (0 : Int32).toInt = 0 := rfl
  have e80 : (80 : Int32).toInt = 80 := rfl
  unfold c_firstDetectOf
  rw [if_neg (by rw [ti_lt]; omega), if_pos (by rw [ti_lt]; omega), if_pos (inbT (by omega) (show (Int32.ofNat f).toInt < ((80 : Nat) : Int) by omega)), nx_ofNat (by omega)]
  split <;> rfl
def cvB (σ : Sg) (p : Int32) (f : Nat) : Bool := decide (gi σ 8 f ≠ 0) && (decide (¬ gi σ 7 f < 0) && decide (¬ p < gi σ 7 f))
theorem p_cov_loop (p : Int32) (k : Nat) : ∀ (fuel i : Nat) (N : Nat) (σ : Sg), i + k = N → N ≤ 80 → k < fuel →
    c_coverageAt_16 fuel p (Int32.ofNat N) (Int32.ofNat (cntF (cvB σ p) i)) (Int32.ofNat i) σ = some (Int32.ofNat (cntF (cvB σ p) N), σ) := by
  induction k with
  | zero =>
    intro fuel i N σ h1 h2 h3
    obtain ⟨f, rfl⟩ : ∃ f, fuel = f + 1 := ⟨fuel - 1, by omega⟩
    have : i = N := by omega
    subst this
    rw [c_coverageAt_16, if_neg (by rw [ofNat_lt (by omega) (by omega)]; omega)]
  | succ k ih =>
    intro fuel i N σ h1 h2 h3
    obtain ⟨f, rfl⟩ : ∃ f, fuel = f + 1 := ⟨fuel - 1, by omega⟩
    rw [c_coverageAt_16, if_pos (by rw [ofNat_lt (by omega) (by omega)]; omega), if_pos (by rw [show (80 : Int32) = Int32.ofNat 80 from rfl, ofNat_lt (by omega) (by omega)]; omega), p_fdo (by omega), Option.bind_some]
    unfold c_coverageAt_51
    have := ih f (i + 1) N σ (by omega) h2 (by omega)
    simp only []
    by_cases hz : gi σ 8 i = 0
    · rw [if_pos hz, if_pos (by decide), ofNat_succ]
      rw [show cntF (cvB σ p) (i + 1) = cntF (cvB σ p) i by simp [cntF, cvB, hz]] at this
      exact this
    · rw [if_neg hz]
      by_cases h7 : gi σ 7 i < 0
      · rw [if_pos h7, ofNat_succ]
        rw [show cntF (cvB σ p) (i + 1) = cntF (cvB σ p) i by simp [cntF, cvB, hz, h7]] at this
        exact this
      · rw [if_neg h7]
        by_cases hp : p < gi σ 7 i
        · rw [if_pos hp, ofNat_succ]
          rw [show cntF (cvB σ p) (i + 1) = cntF (cvB σ p) i by simp [cntF, cvB, hz, h7, hp]] at this
          exact this
        · rw [if_neg hp, ofNat_succ, ofNat_succ]
          rw [show cntF (cvB σ p) (i + 1) = cntF (cvB σ p) i + 1 by simp [cntF, cvB, hz, h7, hp]] at this
          exact this
theorem p_cov {σ : Sg} (H : LOk σ) (p : Int32) : c_coverageAt p σ = some (if p < 0 then 0 else Int32.ofNat (cntF (cvB σ p) (2 * scN σ)), σ) := by
  have hb : scN σ ≤ 40 := by obtain ⟨a, b, c, d, -⟩ := H; unfold scN; omega
  unfold c_coverageAt
  by_cases a : p < 0
  · rw [if_pos a, if_pos a]
  · rw [if_neg a, if_neg a, p_fc, Option.bind_some]
    simp only []
    rw [sc2 H]
    exact p_cov_loop p (2 * scN σ) 400 0 (2 * scN σ) σ (by omega) (by omega) (by omega)
/-! LogicBist: the calls that change the netlist or the settings -/
theorem p_isS (x : Int32) (σ : Sg) : c_isSignal x σ = some (if x < 0 then 0 else if x < sc σ then 1 else 0, σ) := by
  unfold c_isSignal c_signalCount
  split
  · rfl
  · simp only [Option.bind_some]; unfold sc; split <;> rfl
theorem p_kind (x : Int32) (σ : Sg) : c_isGateKind x σ = some (if x < 0 then 0 else if 7 < x then 0 else 1, σ) := by
  unfold c_isGateKind
  split
  · rfl
  · split <;> rfl
theorem p_two (x : Int32) (σ : Sg) : c_isTwoOperand x σ = some (if x < 0 then 0 else if 5 < x then 0 else 1, σ) := by
  unfold c_isTwoOperand
  split
  · rfl
  · split <;> rfl
/-- faults' records: each as it was, or undetected -/
def RstK (σ σ' : Sg) : Prop := (∀ k j, k ≠ 6 → k ≠ 7 → k ≠ 8 → gi σ' k j = gi σ k j) ∧ ∀ f, (gi σ' 8 f = gi σ 8 f ∧ gi σ' 7 f = gi σ 7 f) ∨ gi σ' 8 f = 0
theorem RstK.trans {σ σ' σ'' : Sg} (a : RstK σ σ') (b : RstK σ' σ'') : RstK σ σ'' := by
  refine ⟨fun k j x y z => (b.1 k j x y z).trans (a.1 k j x y z), fun f => ?_⟩
  rcases b.2 f with ⟨b1, b2⟩ | b1
  · rcases a.2 f with ⟨a1, a2⟩ | a1
    · exact Or.inl ⟨b1.trans a1, b2.trans a2⟩
    · exact Or.inr (b1.trans a1)
  · exact Or.inr b1
theorem p_resetK (x : Int32) (σ : Sg) : ∃ σ', c_resetFault x σ = some σ' ∧ RstK σ σ' := by
  by_cases h1 : x < 0
  · exact ⟨σ, by unfold c_resetFault; rw [if_pos h1], fun _ _ _ _ _ => rfl, fun _ => Or.inl ⟨rfl, rfl⟩⟩
  by_cases h2 : x < 80
  · have e0 : (0 : Int32).toInt = 0 := rfl
    have e8 : (80 : Int32).toInt = 80 := rfl
    rw [ti_lt] at h1 h2
    refine ⟨_, p_reset σ (by omega) (by omega), fun k j a b c => by simp [gi_si, a, b, c], fun f => ?_⟩
    by_cases e : f = nx x
    · right; simp [gi_si, e]
    · left; simp [gi_si, e]
  · exact ⟨σ, by unfold c_resetFault; rw [if_neg h1, if_neg h2], fun _ _ _ _ _ => rfl, fun _ => Or.inl ⟨rfl, rfl⟩⟩
def okA (σ : Sg) (k a b : Int32) : Bool := decide (¬ 0 < gi σ 0 17 ∧ gi σ 0 13 < gi σ 0 10 ∧ ¬ k < 0 ∧ ¬ 7 < k ∧ ¬ a < 0 ∧ a < sc σ ∧ (¬ 5 < k → ¬ b < 0 ∧ b < sc σ))
theorem okA_iff {σ : Sg} {k a b : Int32} : okA σ k a b = true ↔ ¬ 0 < gi σ 0 17 ∧ gi σ 0 13 < gi σ 0 10 ∧ ¬ k < 0 ∧ ¬ 7 < k ∧ ¬ a < 0 ∧ a < sc σ ∧ (¬ 5 < k → ¬ b < 0 ∧ b < sc σ) := decide_eq_true_iff
/-- a gate more -/
def AddK (σ σ' : Sg) : Prop := gi σ' 0 13 = gi σ 0 13 + 1 ∧ (∀ j, j ≠ 13 → gi σ' 0 j = gi σ 0 j) ∧ (∀ j, gi σ' 4 j = gi σ 4 j ∧ gi σ' 5 j = gi σ 5 j) ∧ ∀ f, (gi σ' 8 f = gi σ 8 f ∧ gi σ' 7 f = gi σ 7 f) ∨ gi σ' 8 f = 0
theorem p_app {σ : Sg} (H : LOk σ) (h : (gi σ 0 13).toInt < 32) (a b c : Int32) : ∃ σ', c_appendGate a b c σ = some (sc σ, σ') ∧ AddK σ σ' := by
  have e0 : (0 : Int32).toInt = 0 := rfl
  have e32 : (32 : Int32).toInt = 32 := rfl
  have g0 := H.2.2.1
  unfold c_appendGate
  rw [if_neg (by rw [ti_lt]; omega), if_pos (by rw [ti_lt]; omega), if_pos (inbT (by omega) (show (gi σ 0 13).toInt < ((32 : Nat) : Int) by omega))]
  obtain ⟨σ1, q1, K1⟩ := p_resetK (2 * (gi σ 0 9 + gi σ 0 13)) (si (si (si (si σ 1 (nx (gi σ 0 13)) a) 2 (nx (gi σ 0 13)) b) 3 (nx (gi σ 0 13)) c) 0 13 (gi σ 0 13 + 1))
  obtain ⟨σ2, q2, K2⟩ := p_resetK (2 * (gi σ 0 9 + gi σ 0 13) + 1) σ1
  rw [q1, Option.bind_some, q2, Option.bind_some]
  have K := K1.trans K2
  refine ⟨σ2, rfl, ?_, fun j ne => ?_, fun j => ⟨?_, ?_⟩, fun f => ?_⟩
  · rw [K.1 0 13 (by decide) (by decide) (by decide)]; simp [gi_si]
  · rw [K.1 0 j (by decide) (by decide) (by decide)]; simp [gi_si, ne]
  · rw [K.1 4 j (by decide) (by decide) (by decide)]; simp [gi_si]
  · rw [K.1 5 j (by decide) (by decide) (by decide)]; simp [gi_si]
  · rcases K.2 f with ⟨a1, a2⟩ | a1
    · left; rw [a1, a2]; simp [gi_si]
    · exact Or.inr a1
theorem p_add {σ : Sg} (H : LOk σ) (h : (gi σ 0 10).toInt ≤ 32) (k a b : Int32) : (okA σ k a b = false ∧ c_addGate k a b σ = some (-1, σ)) ∨ (okA σ k a b = true ∧ ∃ σ', c_addGate k a b σ = some (sc σ, σ') ∧ AddK σ σ') := by
  cases hok : okA σ k a b with
  | false =>
    left
    refine ⟨rfl, ?_⟩
    have hn : ¬ (¬ 0 < gi σ 0 17 ∧ gi σ 0 13 < gi σ 0 10 ∧ ¬ k < 0 ∧ ¬ 7 < k ∧ ¬ a < 0 ∧ a < sc σ ∧ (¬ 5 < k → ¬ b < 0 ∧ b < sc σ)) := fun q => by rw [okA_iff.mpr q] at hok; cases hok
    unfold c_addGate
    simp only [p_kind, p_isS, p_two, Option.bind_some]
    by_cases h1 : 0 < gi σ 0 17
    · rw [if_pos h1]
    by_cases h2 : gi σ 0 13 < gi σ 0 10
    · by_cases h3 : k < 0
      · simp [h1, h2, h3]
      by_cases h4 : 7 < k
      · simp [h1, h2, h3, h4]
      by_cases h5 : a < 0
      · simp [h1, h2, h3, h4, h5]
      by_cases h6 : a < sc σ
      · by_cases h7 : 5 < k
        · exact absurd ⟨h1, h2, h3, h4, h5, h6, fun q => absurd h7 q⟩ hn
        · by_cases h8 : b < 0
          · simp [h1, h2, h3, h4, h5, h6, h7, h8]
          · by_cases h9 : b < sc σ
            · exact absurd ⟨h1, h2, h3, h4, h5, h6, fun _ => ⟨h8, h9⟩⟩ hn
            · simp [h1, h2, h3, h4, h5, h6, h7, h8, h9]
      · simp [h1, h2, h3, h4, h5, h6]
    · simp [h1, h2]
  | true =>
    right
    refine ⟨rfl, ?_⟩
    obtain ⟨h1, h2, h3, h4, h5, h6, h7⟩ := okA_iff.mp hok
    have hg : (gi σ 0 13).toInt < 32 := by rw [ti_lt] at h2; omega
    unfold c_addGate
    simp only [p_kind, p_isS, p_two, Option.bind_some]
    by_cases h8 : 5 < k
    · obtain ⟨σ', q, K⟩ := p_app H hg k a a
      refine ⟨σ', ?_, K⟩
      simp [h1, h2, h3, h4, h5, h6, h8, c_addGate_64, c_addGate_77, q]
    · obtain ⟨h9, h10⟩ := h7 h8
      obtain ⟨σ', q, K⟩ := p_app H hg k a b
      refine ⟨σ', ?_, K⟩
      simp [h1, h2, h3, h4, h5, h6, h8, h9, h10, c_addGate_64, c_addGate_77, q]
def okM (σ : Sg) (x : Int32) : Bool := decide (¬ 0 < gi σ 0 17 ∧ gi σ 0 14 < 8 ∧ ¬ x < 0 ∧ x < sc σ ∧ gi σ 5 (nx x) = 0)
theorem okM_iff {σ : Sg} {x : Int32} : okM σ x = true ↔ ¬ 0 < gi σ 0 17 ∧ gi σ 0 14 < 8 ∧ ¬ x < 0 ∧ x < sc σ ∧ gi σ 5 (nx x) = 0 := decide_eq_true_iff
theorem p_mark {σ : Sg} (H : LOk σ) (x : Int32) : c_markOutput x σ = some (if okM σ x = true then (1, si (si (si σ 5 (nx x) 1) 4 (nx (gi σ 0 14)) x) 0 14 (gi σ 0 14 + 1)) else (0, σ)) := by
  have hs := sc_ti H
  have e0 : (0 : Int32).toInt = 0 := rfl
  have e8 : (8 : Int32).toInt = 8 := rfl
  unfold c_markOutput
  simp only [p_isS, Option.bind_some]
  by_cases h1 : 0 < gi σ 0 17
  · rw [if_pos h1, if_neg (fun q => (okM_iff.mp q).1 h1)]
  by_cases h2 : gi σ 0 14 < 8
  · by_cases h3 : x < 0
    · rw [if_neg (fun q => (okM_iff.mp q).2.2.1 h3)]; simp [h1, h2, h3]
    by_cases h4 : x < sc σ
    · have h3' := h3
      have h4' := h4
      have h2' := h2
      rw [ti_lt] at h3' h4' h2'
      obtain ⟨a, b, c, d, e, f, -⟩ := H
      have hi : inb x 40 = true := inbT (by omega) (show x.toInt < ((40 : Nat) : Int) by omega)
      have ho : inb (gi σ 0 14) 8 = true := inbT (by omega) (show (gi σ 0 14).toInt < ((8 : Nat) : Int) by omega)
      by_cases h5 : gi σ 5 (nx x) = 0
      · rw [if_pos (okM_iff.mpr ⟨h1, h2, h3, h4, h5⟩)]; simp [h1, h2, h3, h4, h5, hi, ho]
      · rw [if_neg (fun q => h5 (okM_iff.mp q).2.2.2.2)]; simp [h1, h2, h3, h4, h5, hi]
    · rw [if_neg (fun q => h4 (okM_iff.mp q).2.2.2.1)]; simp [h1, h2, h3, h4]
  · rw [if_neg (fun q => h2 (okM_iff.mp q).2.1)]; simp [h1, h2]
theorem p_seed (x : Int32) (σ : Sg) : c_setSeed x σ = some (if 0 < gi σ 0 17 then (0, σ) else if x &&& 65535 = 0 then (0, σ) else (1, si (si σ 0 15 (x &&& 65535)) 0 18 (x &&& 65535))) := by
  unfold c_setSeed
  split
  · rfl
  · split <;> rfl
theorem p_mask (x : Int32) (σ : Sg) : c_setMisrMask x σ = some (if 0 < gi σ 0 17 then (0, σ) else (1, si σ 0 16 (x &&& gi σ 0 12))) := by
  unfold c_setMisrMask
  split <;> rfl
theorem p_restart (σ : Sg) : ∃ σ', c_restart σ = some σ' ∧ Cleared (si (si (si σ 0 17 0) 0 18 (gi σ 0 15)) 0 19 0) σ' := by
  obtain ⟨σ', q, C⟩ := p_clear σ
  exact ⟨σ', by unfold c_restart; rw [q]; rfl, C⟩
/-! LogicBist: one gate over two inputs, one output -/
def biI (b : Bool) : Int32 := if b = true then 1 else 0
def lnI (b : Bool) : Int64 := if b = true then -1 else 0
def comb (x : Int32) (a b : Int64) : Int64 := if x = 0 then a &&& b else if x = 1 then a ||| b else if x = 2 then (a &&& b) ^^^ (-1) else if x = 3 then (a ||| b) ^^^ (-1) else if x = 4 then a ^^^ b else if x = 5 then (a ^^^ b) ^^^ (-1) else if x = 6 then a ^^^ (-1) else a
theorem p_combV (x : Int32) (a b : Int64) (σ : Sg) : c_combine x a b σ = some (comb x a b, σ) := by
  unfold c_combine comb
  split
  · rfl
  split
  · rfl
  split
  · rfl
  split
  · rfl
  split
  · rfl
  split
  · rfl
  split <;> rfl
def frc (y : Int64) (s g : Int32) : Int64 := if g < 0 then y else if s < 0 then y else if XT.ushr s 5 = g then (y &&& (((1 : Int64) <<< (((s <<< ((1 : Int32) &&& 31)) &&& (63 : Int32)).toInt64 &&& 63)) ^^^ (-1 : Int64))) ||| ((1 : Int64) <<< ((((s <<< ((1 : Int32) &&& 31)) &&& (63 : Int32)) + (1 : Int32)).toInt64 &&& 63)) else y
theorem p_frc (y : Int64) (s g : Int32) (σ : Sg) : c_forceLane y s g σ = some (frc y s g, σ) := by
  unfold c_forceLane frc
  split
  · rfl
  split
  · rfl
  split <;> rfl
def St5 (σ : Sg) (K w m : Int32) : Prop := gi σ 0 9 = 2 ∧ gi σ 0 13 = 1 ∧ gi σ 0 14 = 1 ∧ gi σ 0 11 = w ∧ gi σ 0 16 = m ∧ gi σ 1 0 = K ∧ gi σ 2 0 = 0 ∧ (¬ 5 < K → gi σ 3 0 = 1) ∧ gi σ 4 0 = 2
theorem St5.same {σ σ' : Sg} {K w m : Int32} (S : St5 σ K w m) (h : ∀ k j, k ≠ 6 → k ≠ 7 → k ≠ 8 → (k = 0 → j ≠ 17 ∧ j ≠ 18 ∧ j ≠ 19) → gi σ' k j = gi σ k j) : St5 σ' K w m := by
  obtain ⟨a, b, c, d, e, f, g, i, j⟩ := S
  have z : ∀ j, j ≠ 17 → j ≠ 18 → j ≠ 19 → gi σ' 0 j = gi σ 0 j := fun j x y w => h 0 j (by decide) (by decide) (by decide) fun _ => ⟨x, y, w⟩
  have y : ∀ k j, 1 ≤ k → k ≤ 5 → gi σ' k j = gi σ k j := fun k j x y => h k j (by omega) (by omega) (by omega) fun q => by omega
  exact ⟨(z 9 (by decide) (by decide) (by decide)).trans a, (z 13 (by decide) (by decide) (by decide)).trans b, (z 14 (by decide) (by decide) (by decide)).trans c, (z 11 (by decide) (by decide) (by decide)).trans d, (z 16 (by decide) (by decide) (by decide)).trans e, (y 1 0 (by decide) (by decide)).trans f, (y 2 0 (by decide) (by decide)).trans g, fun q => (y 3 0 (by decide) (by decide)).trans (i q), (y 4 0 (by decide) (by decide)).trans j⟩
theorem p_laneV {n : Nat} (hn : n < 40) (σ : Sg) : c_loadLane (Int32.ofNat n) σ = some (gj σ 9 n, σ) := by
  have e := ti_ofNat (n := n) (by omega)
  have e0 : (0 : Int32).toInt = 0 := rfl
  have e40 : (40 : Int32).toInt = 40 := rfl
  unfold c_loadLane
  rw [if_neg (by rw [ti_lt]; omega), if_pos (by rw [ti_lt]; omega), if_pos (inbT (by omega) (show (Int32.ofNat n).toInt < ((40 : Nat) : Int) by omega)), nx_ofNat (by omega)]
theorem gl5 {σ : Sg} {K w m : Int32} (S : St5 σ K w m) (hK : 0 ≤ K.toInt) : c_gateLane 0 σ = some (comb K (gj σ 9 0) (if 5 < K then 0 else gj σ 9 1), σ) := by
  obtain ⟨a, b, c, d, e, f, g, i, j⟩ := S
  have n0 : nx (0 : Int32) = 0 := rfl
  have z0 : (0 : Int32).toInt = 0 := rfl
  have l0 : c_loadLane 0 σ = some (gj σ 9 0, σ) := p_laneV (n := 0) (by decide) σ
  have l1 : c_loadLane 1 σ = some (gj σ 9 1, σ) := p_laneV (n := 1) (by decide) σ
  have k0 : ¬ K < 0 := by rw [ti_lt]; omega
  unfold c_gateLane
  rw [if_neg (show ¬ (0 : Int32) < 0 by decide), if_pos (show (0 : Int32) < 32 by decide), if_pos (show inb (0 : Int32) 32 = true by decide), n0, f, g, l0, Option.bind_some]
  simp only []
  unfold c_isTwoOperand
  rw [if_neg k0]
  by_cases q : 5 < K
  · rw [if_pos q, if_pos q, Option.bind_some, if_pos rfl]
    unfold c_gateLane_53
    rw [p_combV]; rfl
  · rw [if_neg q, if_neg q, Option.bind_some, if_neg (show ¬ (1 : Int32) = 0 by decide), i q]
    simp only []
    rw [l1, Option.bind_some]
    unfold c_gateLane_53
    rw [p_combV]; rfl
theorem ev55 (k : Int32 → Int32 → Int32 → Int32 → Sg → Option Sg) (l g n s : Int32) (y : Int64) (σ : Sg) (h : inb s 40 = true) : c_evaluateGroup_55 k l g n s y σ = k l g n (s + 1) (sj σ 9 (nx s) (frc y s g)) := by
  unfold c_evaluateGroup_55
  rw [p_frc, Option.bind_some, if_pos h]
def bt (l : Int32) (s : Int32) : Bool := decide (¬ (XT.ushr l s &&& 1) = 0)
theorem p_inV {l s : Int32} (h0 : ¬ s < 0) (h1 : ¬ 31 < s) (σ : Sg) : c_inputLane l s σ = some (lnI (bt l s), σ) := by
  unfold c_inputLane
  rw [if_neg h0, if_neg h1]
  by_cases q : XT.ushr l s &&& 1 = 0
  · rw [if_pos q]; simp [lnI, bt, q]
  · rw [if_neg q]; simp [lnI, bt, q]
def L0 (b : Bool) (g : Int32) : Int64 := frc (lnI b) 0 g
def L1 (b : Bool) (g : Int32) : Int64 := frc (lnI b) 1 g
def L2 (K : Int32) (a b : Bool) (g : Int32) : Int64 := frc (comb K (L0 a g) (if 5 < K then 0 else L1 b g)) 2 g
theorem ev5 {σ : Sg} {K w m : Int32} (S : St5 σ K w m) (hK : 0 ≤ K.toInt) (l g : Int32) : c_evaluateGroup l g σ = some (sj (sj (sj σ 9 0 (L0 (bt l 0) g)) 9 1 (L1 (bt l 1) g)) 9 2 (L2 K (bt l 0) (bt l 1) g)) := by
  have n0 : nx (0 : Int32) = 0 := rfl
  have n1 : nx (1 : Int32) = 1 := rfl
  have n2 : nx (2 : Int32) = 2 := rfl
  have hsc : c_signalCount σ = some (3, σ) := by unfold c_signalCount; rw [S.1, S.2.1]; rfl
  unfold c_evaluateGroup
  rw [hsc, Option.bind_some]
  simp only []
  rw [c_evaluateGroup_8, if_pos (show (0 : Int32) < 3 by decide), if_pos (show (0 : Int32) < 40 by decide), S.1, if_pos (show (0 : Int32) < 2 by decide), p_inV (by decide) (by decide), Option.bind_some]
  simp only []
  rw [ev55 _ _ _ _ _ _ _ (by decide), show (0 : Int32) + 1 = 1 from rfl, n0]
  rw [c_evaluateGroup_8, if_pos (show (1 : Int32) < 3 by decide), if_pos (show (1 : Int32) < 40 by decide), gi_sj, S.1, if_pos (show (1 : Int32) < 2 by decide), p_inV (by decide) (by decide), Option.bind_some]
  simp only []
  rw [ev55 _ _ _ _ _ _ _ (by decide), show (1 : Int32) + 1 = 2 from rfl, n1]
  rw [c_evaluateGroup_8, if_pos (show (2 : Int32) < 3 by decide), if_pos (show (2 : Int32) < 40 by decide), gi_sj, gi_sj, S.1, if_neg (show ¬ (2 : Int32) < 2 by decide), show (2 : Int32) - 2 = 0 from rfl]
  rw [gl5 (σ := sj (sj σ 9 0 (frc (lnI (bt l 0)) 0 g)) 9 1 (frc (lnI (bt l 1)) 1 g)) (S.same fun k j _ _ _ _ => by rw [gi_sj, gi_sj]) hK, Option.bind_some]
  simp only []
  rw [ev55 _ _ _ _ _ _ _ (by decide), show (2 : Int32) + 1 = 3 from rfl, n2]
  rw [c_evaluateGroup_8, if_neg (show ¬ (3 : Int32) < 3 by decide)]
  simp [L0, L1, L2, gj_sj]
/-! LogicBist: what a pattern computes, as a function of the ints alone -/
def ll (σ : Sg) (x : Int32) : Int64 := if x < 0 then 0 else if x < 40 then gj σ 9 (nx x) else 0
theorem p_ll (x : Int32) (σ : Sg) : c_loadLane x σ = some (ll σ x, σ) := by
  have e0 : (0 : Int32).toInt = 0 := rfl
  have e40 : (40 : Int32).toInt = 40 := rfl
  unfold c_loadLane ll
  by_cases a : x < 0
  · rw [if_pos a, if_pos a]
  · by_cases b : x < 40
    · have a' := a
      have b' := b
      rw [ti_lt] at a' b'
      rw [if_neg a, if_neg a, if_pos b, if_pos b, if_pos (inbT (by omega) (show x.toInt < ((40 : Nat) : Int) by omega))]
    · rw [if_neg a, if_neg a, if_neg b, if_neg b]
theorem ll_cg {σ τ : Sg} {n : Nat} (h : ∀ s, s < n → gj τ 9 s = gj σ 9 s) {x : Int32} (hx : x.toInt < (n : Int)) : ll τ x = ll σ x := by
  have e0 : (0 : Int32).toInt = 0 := rfl
  unfold ll
  by_cases a : x < 0
  · rw [if_pos a, if_pos a]
  · rw [if_neg a, if_neg a]
    rw [ti_lt] at a
    rw [h (nx x) (by unfold nx; omega)]
def twV (x : Int32) : Int32 := if x < 0 then 0 else if 5 < x then 0 else 1
def gv (σ : Sg) (j : Nat) : Int64 := comb (gi σ 1 j) (ll σ (gi σ 2 j)) (if twV (gi σ 1 j) = 0 then 0 else ll σ (gi σ 3 j))
theorem p_gv {x : Int32} (σ : Sg) (h0 : 0 ≤ x.toInt) (h1 : x.toInt < 32) : c_gateLane x σ = some (gv σ (nx x), σ) := by
  have e0 : (0 : Int32).toInt = 0 := rfl
  have e32 : (32 : Int32).toInt = 32 := rfl
  have tw : c_isTwoOperand (gi σ 1 (nx x)) σ = some (twV (gi σ 1 (nx x)), σ) := p_two _ _
  unfold c_gateLane c_gateLane_53 gv
  rw [if_neg (by rw [ti_lt]; omega), if_pos (by rw [ti_lt]; omega), if_pos (inbT h0 (show x.toInt < ((32 : Nat) : Int) by omega)), p_ll, Option.bind_some]
  simp only []
  rw [tw, Option.bind_some]
  by_cases c : twV (gi σ 1 (nx x)) = 0
  · rw [if_pos c, if_pos c, p_combV]; rfl
  · rw [if_neg c, if_neg c, p_ll, Option.bind_some, p_combV]; rfl
def il (b s : Int32) : Int64 := if s < 0 then 0 else if 31 < s then 0 else if XT.ushr b s &&& 1 = 0 then 0 else -1
theorem p_il (b s : Int32) (σ : Sg) : c_inputLane b s σ = some (il b s, σ) := by
  unfold c_inputLane il
  split
  · rfl
  split
  · rfl
  split <;> rfl
/-- the same net -/
def NEq (σ τ : Sg) : Prop := ∀ k j, k ≤ 5 → (k = 0 → j = 9 ∨ j = 13 ∨ j = 14) → gi τ k j = gi σ k j
/-- gates and outputs read what lies before them -/
def NetOk (σ : Sg) : Prop := (∀ k : Nat, (k : Int) < (gi σ 0 13).toInt → (gi σ 2 k).toInt < (gi σ 0 9).toInt + k ∧ (gi σ 3 k).toInt < (gi σ 0 9).toInt + k) ∧ ∀ k : Nat, (k : Int) < (gi σ 0 14).toInt → (gi σ 4 k).toInt < (gi σ 0 9).toInt + (gi σ 0 13).toInt
theorem gv_cg {σ τ : Sg} (N : NEq σ τ) {j n : Nat} (hA : (gi σ 2 j).toInt < (n : Int)) (hB : (gi σ 3 j).toInt < (n : Int)) (h : ∀ s, s < n → gj τ 9 s = gj σ 9 s) : gv τ j = gv σ j := by
  unfold gv
  rw [N 1 j (by decide) (fun q => absurd q (by decide)), N 2 j (by decide) (fun q => absurd q (by decide)), N 3 j (by decide) (fun q => absurd q (by decide)), ll_cg h hA, ll_cg h hB]
theorem ev_cg (b g n : Int32) (k : Nat) : ∀ (fuel : Nat) (s : Int32) (σ τ : Sg), s.toInt + k = 40 → 0 ≤ s.toInt → k < fuel → NEq σ τ → NetOk σ → LOk σ → n.toInt = (gi σ 0 9).toInt + (gi σ 0 13).toInt → (∀ t, t < nx s → gj τ 9 t = gj σ 9 t) →
    ∃ σ' τ', c_evaluateGroup_8 fuel b g n s σ = some σ' ∧ c_evaluateGroup_8 fuel b g n s τ = some τ' ∧ OnlyL σ σ' ∧ OnlyL τ τ' ∧ ∀ t, t < nx n → gj τ' 9 t = gj σ' 9 t := by
  have e40 : (40 : Int32).toInt = 40 := rfl
  have stop : ∀ (f : Nat) (s : Int32) (σ τ : Sg), ¬ s < n → (∀ t, t < nx s → gj τ 9 t = gj σ 9 t) → ∃ σ' τ', c_evaluateGroup_8 (f + 1) b g n s σ = some σ' ∧ c_evaluateGroup_8 (f + 1) b g n s τ = some τ' ∧ OnlyL σ σ' ∧ OnlyL τ τ' ∧ ∀ t, t < nx n → gj τ' 9 t = gj σ' 9 t := by
    intro f s σ τ hns hl
    have qa : ∀ ρ : Sg, c_evaluateGroup_8 (f + 1) b g n s ρ = some ρ := fun ρ => by rw [c_evaluateGroup_8, if_neg hns]
    refine ⟨σ, τ, qa σ, qa τ, OnlyL.refl σ, OnlyL.refl τ, fun t ht => hl t ?_⟩
    rw [ti_lt] at hns
    unfold nx at ht ⊢
    omega
  induction k with
  | zero =>
    intro fuel s σ τ h1 h2 h3 N W H hn hl
    obtain ⟨f, rfl⟩ : ∃ f, fuel = f + 1 := ⟨fuel - 1, by omega⟩
    obtain ⟨H1, H2, H3, H4, -⟩ := H
    exact stop f s σ τ (by rw [ti_lt]; omega) hl
  | succ k ih =>
    intro fuel s σ τ h1 h2 h3 N W H hn hl
    obtain ⟨f, rfl⟩ : ∃ f, fuel = f + 1 := ⟨fuel - 1, by omega⟩
    obtain ⟨H1, H2, H3, H4, -⟩ := id H
    by_cases hns : s < n
    · have hs40 : s < 40 := by rw [ti_lt]; omega
      have hns' := hns
      rw [ti_lt] at hns'
      have e1 : (s + 1).toInt = s.toInt + 1 := ti_add1 (by omega)
      have n1 : nx (s + 1) = nx s + 1 := by unfold nx; omega
      have es : ((nx s : Nat) : Int) = s.toInt := by unfold nx; omega
      have hin : inb s 40 = true := inbT h2 (show s.toInt < ((40 : Nat) : Int) by omega)
      have n9 : gi τ 0 9 = gi σ 0 9 := N 0 9 (by decide) (fun _ => Or.inl rfl)
      have key : ∃ v : Int64, c_evaluateGroup_8 (f + 1) b g n s σ = c_evaluateGroup_8 f b g n (s + 1) (sj σ 9 (nx s) v) ∧ c_evaluateGroup_8 (f + 1) b g n s τ = c_evaluateGroup_8 f b g n (s + 1) (sj τ 9 (nx s) v) := by
        by_cases hi : s < gi σ 0 9
        · have st : ∀ ρ : Sg, gi ρ 0 9 = gi σ 0 9 → c_evaluateGroup_8 (f + 1) b g n s ρ = c_evaluateGroup_8 f b g n (s + 1) (sj ρ 9 (nx s) (frc (il b s) s g)) := by
            intro ρ h9
            rw [c_evaluateGroup_8, if_pos hns, if_pos hs40, h9, if_pos hi, p_il, Option.bind_some]
            exact ev55 _ _ _ _ _ _ _ hin
          exact ⟨_, st σ rfl, st τ n9⟩
        · have hi' := hi
          rw [ti_lt] at hi'
          have hx : (s - gi σ 0 9).toInt = s.toInt - (gi σ 0 9).toInt := ti_sub (by omega) (by omega)
          have ej : ((nx (s - gi σ 0 9) : Nat) : Int) = s.toInt - (gi σ 0 9).toInt := by unfold nx; omega
          have st : ∀ ρ : Sg, gi ρ 0 9 = gi σ 0 9 → gv ρ (nx (s - gi σ 0 9)) = gv σ (nx (s - gi σ 0 9)) → c_evaluateGroup_8 (f + 1) b g n s ρ = c_evaluateGroup_8 f b g n (s + 1) (sj ρ 9 (nx s) (frc (gv σ (nx (s - gi σ 0 9))) s g)) := by
            intro ρ h9 hg
            rw [c_evaluateGroup_8, if_pos hns, if_pos hs40, h9, if_neg hi, p_gv ρ (by omega) (by omega), Option.bind_some, hg]
            exact ev55 _ _ _ _ _ _ _ hin
          have ww := W.1 (nx (s - gi σ 0 9)) (by omega)
          exact ⟨_, st σ rfl rfl, st τ n9 (gv_cg N (n := nx s) (by omega) (by omega) hl)⟩
      obtain ⟨v, k1, k2⟩ := key
      obtain ⟨σ', τ', q1, q2, O1, O2, hl'⟩ := ih f (s + 1) (sj σ 9 (nx s) v) (sj τ 9 (nx s) v) (by omega) (by omega) (by omega) (fun k j a b => N k j a b) W H hn (fun t ht => by
        rw [gj_sj, gj_sj]
        by_cases c : t = nx s
        · rw [if_pos ⟨rfl, c⟩, if_pos ⟨rfl, c⟩]
        · rw [if_neg (fun w => c w.2), if_neg (fun w => c w.2), hl t (by omega)])
      exact ⟨σ', τ', k1.trans q1, k2.trans q2, ⟨fun k j => O1.1 k j, fun k j ne => by rw [O1.2 k j ne, gj_sj, if_neg (fun w => ne w.1)]⟩, ⟨fun k j => O2.1 k j, fun k j ne => by rw [O2.2 k j ne, gj_sj, if_neg (fun w => ne w.1)]⟩, hl'⟩
    · exact stop f s σ τ hns hl
theorem ow_cg {σ τ : Sg} (h14 : gi τ 0 14 = gi σ 0 14) (h4 : ∀ j, gi τ 4 j = gi σ 4 j) (hl : ∀ j : Nat, (j : Int) < (gi σ 0 14).toInt → ll τ (gi σ 4 j) = ll σ (gi σ 4 j)) (fuel : Nat) : ∀ (x w j z : Int32) (s' : Sg), 0 ≤ j.toInt → c_outputWordAt_16 fuel x w j σ = some (z, s') → c_outputWordAt_16 fuel x w j τ = some (z, τ) := by
  have e8 : (8 : Int32).toInt = 8 := rfl
  induction fuel with
  | zero => intro x w j z s' hj h; cases h
  | succ f ih =>
    intro x w j z s' hj h
    rw [c_outputWordAt_16] at h ⊢
    rw [h14]
    by_cases a : j < gi σ 0 14
    · rw [if_pos a] at h ⊢
      by_cases b : j < 8
      · rw [if_pos b] at h ⊢
        by_cases c : inb j 8 = true
        · have a' := a
          have b' := b
          rw [ti_lt] at a' b'
          have e1 : (j + 1).toInt = j.toInt + 1 := ti_add1 (by omega)
          rw [if_pos c] at h ⊢
          rw [p_ll, Option.bind_some] at h
          rw [p_ll, Option.bind_some, h4, hl (nx j) (by unfold nx; omega)]
          unfold c_outputWordAt_59 at h ⊢
          by_cases d : XT.cmpL (XT.ushrL (ll σ (gi σ 4 (nx j))) x &&& 1) 0 = 0
          · rw [if_pos d] at h ⊢; exact ih _ _ _ _ _ (by omega) h
          · rw [if_neg d] at h ⊢; exact ih _ _ _ _ _ (by omega) h
        · rw [if_neg c] at h; cases h
      · rw [if_neg b] at h ⊢; cases h; rfl
    · rw [if_neg a] at h ⊢; cases h; rfl
theorem ow_cgW {σ τ : Sg} (h14 : gi τ 0 14 = gi σ 0 14) (h4 : ∀ j, gi τ 4 j = gi σ 4 j) (hl : ∀ j : Nat, (j : Int) < (gi σ 0 14).toInt → ll τ (gi σ 4 j) = ll σ (gi σ 4 j)) {x z : Int32} {s' : Sg} (h : c_outputWordAt x σ = some (z, s')) : c_outputWordAt x τ = some (z, τ) := by
  unfold c_outputWordAt at h ⊢
  by_cases a : x < 0
  · rw [if_pos a] at h ⊢; cases h; rfl
  · rw [if_neg a] at h ⊢
    by_cases b : 63 < x
    · rw [if_pos b] at h ⊢; cases h; rfl
    · rw [if_neg b] at h ⊢
      exact ow_cg h14 h4 hl 400 x 0 0 _ _ (by decide) h
/-- the output word of pattern l, group g, lane k -/
def owv (σ : Sg) (l g k : Int32) : Int32 := match c_evaluateGroup l g σ with
  | some s => (match c_outputWordAt k s with
    | some p => p.1
    | none => 0)
  | none => 0
theorem p_owv {σ s : Sg} {l g : Int32} (h : c_evaluateGroup l g σ = some s) (k : Int32) : c_outputWordAt k s = some (owv σ l g k, s) := by
  obtain ⟨z, q⟩ := p_outw k s
  have e : owv σ l g k = z := by simp only [owv, h, q]
  rw [e, q]
theorem scN_ti {σ : Sg} (H : LOk σ) : ((scN σ : Nat) : Int) = (gi σ 0 9).toInt + (gi σ 0 13).toInt := by
  obtain ⟨a, b, c, d, -⟩ := H
  unfold scN
  omega
theorem ev_two {σ τ : Sg} (N : NEq σ τ) (W : NetOk σ) (H : LOk σ) (l g : Int32) : ∃ σ' τ', c_evaluateGroup l g σ = some σ' ∧ c_evaluateGroup l g τ = some τ' ∧ OnlyL σ σ' ∧ OnlyL τ τ' ∧ ∀ t, t < scN σ → gj τ' 9 t = gj σ' 9 t := by
  have hsc := sc_ti H
  have hτ : c_signalCount τ = some (sc σ, τ) := by
    unfold c_signalCount sc
    rw [N 0 9 (by decide) (fun _ => Or.inl rfl), N 0 13 (by decide) (fun _ => Or.inr (Or.inl rfl))]
  have hσ : c_signalCount σ = some (sc σ, σ) := rfl
  obtain ⟨σ', τ', q1, q2, O1, O2, hl⟩ := ev_cg l g (sc σ) 40 400 0 σ τ rfl (by decide) (by decide) N W H hsc (fun t ht => absurd ht (Nat.not_lt_zero t))
  refine ⟨σ', τ', ?_, ?_, O1, O2, fun t ht => hl t ?_⟩
  · unfold c_evaluateGroup; rw [hσ, Option.bind_some]; exact q1
  · unfold c_evaluateGroup; rw [hτ, Option.bind_some]; exact q2
  · have := scN_ti H
    unfold nx
    omega
theorem owv_cg {σ τ : Sg} (N : NEq σ τ) (W : NetOk σ) (H : LOk σ) (l g k : Int32) : owv τ l g k = owv σ l g k := by
  obtain ⟨σ', τ', q1, q2, O1, O2, hl⟩ := ev_two N W H l g
  have z := p_owv q1 k
  have zτ := p_owv q2 k
  have hs := scN_ti H
  have key : c_outputWordAt k τ' = some (owv σ l g k, τ') := by
    refine ow_cgW (σ := σ') ((O2.1 0 14).trans ((N 0 14 (by decide) (fun _ => Or.inr (Or.inr rfl))).trans (O1.1 0 14).symm)) (fun j => (O2.1 4 j).trans ((N 4 j (by decide) (fun q => absurd q (by decide))).trans (O1.1 4 j).symm)) (fun j hj => ll_cg hl ?_) z
    rw [O1.1] at hj ⊢
    have := W.2 j hj
    omega
  rw [key] at zτ
  exact (Prod.mk.inj (Option.some.inj zτ)).1.symm
theorem misr_cg {σ τ : Sg} (h14 : gi τ 0 14 = gi σ 0 14) (h11 : gi τ 0 11 = gi σ 0 11) (fuel : Nat) : ∀ (r x j z : Int32) (s' : Sg), c_misrStep_26 fuel r x j σ = some (z, s') → c_misrStep_26 fuel r x j τ = some (z, τ) := by
  induction fuel with
  | zero => intro r x j z s' h; cases h
  | succ f ih =>
    intro r x j z s' h
    rw [c_misrStep_26] at h ⊢
    rw [h14, h11]
    unfold c_misrStep_65 at h ⊢
    by_cases a : j < gi σ 0 14
    · rw [if_pos a] at h ⊢
      by_cases b : j < 8
      · rw [if_pos b] at h ⊢
        by_cases c : XT.ushr r j &&& 1 = 0
        · rw [if_pos c] at h ⊢; exact ih _ _ _ _ _ h
        · rw [if_neg c] at h ⊢
          by_cases d : gi σ 0 11 = 0
          · rw [if_pos d] at h; cases h
          · rw [if_neg d] at h ⊢; exact ih _ _ _ _ _ h
      · rw [if_neg b] at h ⊢; cases h; rfl
    · rw [if_neg a] at h ⊢; cases h; rfl
/-- a step of the signature register -/
def mzv (σ : Sg) (s r : Int32) : Int32 := match c_misrStep s r σ with
  | some p => p.1
  | none => 0
theorem p_mz {σ : Sg} (hw : gi σ 0 11 ≠ 0) (s r : Int32) : c_misrStep s r σ = some (mzv σ s r, σ) := by
  obtain ⟨z, q⟩ := p_misr s r σ hw
  have e : mzv σ s r = z := by simp only [mzv, q]
  rw [e, q]
theorem mz_cg {σ τ : Sg} (h14 : gi τ 0 14 = gi σ 0 14) (h11 : gi τ 0 11 = gi σ 0 11) (h16 : gi τ 0 16 = gi σ 0 16) (hw : gi σ 0 11 ≠ 0) (s r : Int32) : mzv τ s r = mzv σ s r := by
  have q := p_mz hw s r
  have qτ := p_mz (σ := τ) (by rw [h11]; exact hw) s r
  have key : c_misrStep s r τ = some (mzv σ s r, τ) := by
    clear qτ
    generalize mzv σ s r = z at *
    unfold c_misrStep c_misrStep_23 at q ⊢
    rw [h16]
    by_cases a : s &&& 1 = 1
    · rw [if_pos a] at q ⊢; exact misr_cg h14 h11 400 _ _ _ _ _ q
    · rw [if_neg a] at q ⊢; exact misr_cg h14 h11 400 _ _ _ _ _ q
  rw [key] at qτ
  exact (Prod.mk.inj (Option.some.inj qτ)).1.symm
/-! the recording of a group -/
def SameB (σ s : Sg) : Prop := (∀ k j, k ≠ 6 → k ≠ 7 → k ≠ 8 → gi s k j = gi σ k j) ∧ ∀ k j, gj s k j = gj σ k j
theorem ow_same {σ s : Sg} (S : SameB σ s) {x z : Int32} (h : c_outputWordAt x σ = some (z, σ)) : c_outputWordAt x s = some (z, s) :=
  ow_cgW (S.1 0 14 (by decide) (by decide) (by decide)) (fun j => S.1 4 j (by decide) (by decide) (by decide)) (fun j _ => by unfold ll; rw [S.2]) h
def RecV (σ : Sg) (p gb : Int32) (R : Nat → Int32) (f e : Nat) (σ' : Sg) : Prop := SameB σ σ' ∧ (∀ k j, ¬ (f ≤ j ∧ j < e) → gi σ' k j = gi σ k j) ∧ ∀ j, f ≤ j → j < e → gi σ' 6 j = mzv σ (gi σ 6 j) (R j) ∧ gi σ' 8 j = (if R j = gb then gi σ 8 j else if gi σ 8 j = 0 then 1 else gi σ 8 j) ∧ gi σ' 7 j = (if R j = gb then gi σ 7 j else if gi σ 8 j = 0 then p else gi σ 7 j)
theorem rl_v {R : Nat → Int32} (p gb : Int32) (e : Nat) (he : e ≤ 64) (k : Nat) : ∀ (fuel f : Nat) (σ : Sg), f + k = e → k < fuel → gi σ 0 11 ≠ 0 → (∀ s, SameB σ s → ∀ j, j < e → c_outputWordAt (Int32.ofNat j) s = some (R j, s)) → ∃ σ', c_recordGroup_18 fuel gb p 0 (Int32.ofNat e) (Int32.ofNat f) σ = some σ' ∧ RecV σ p gb R f e σ' := by
  have ee := ti_ofNat (n := e) (by omega)
  have e0 : (0 : Int32).toInt = 0 := rfl
  have e80 : (80 : Int32).toInt = 80 := rfl
  induction k with
  | zero =>
    intro fuel f σ h1 h2 hw ho
    obtain ⟨n, rfl⟩ : ∃ n, fuel = n + 1 := ⟨fuel - 1, by omega⟩
    have ef := ti_ofNat (n := f) (by omega)
    rw [c_recordGroup_18, if_neg (by rw [ti_lt]; omega)]
    exact ⟨σ, rfl, ⟨fun _ _ _ _ _ => rfl, fun _ _ => rfl⟩, fun _ _ _ => rfl, fun j a b => by omega⟩
  | succ k ih =>
    intro fuel f σ h1 h2 hw ho
    obtain ⟨n, rfl⟩ : ∃ n, fuel = n + 1 := ⟨fuel - 1, by omega⟩
    have ef := ti_ofNat (n := f) (by omega)
    rw [c_recordGroup_18, if_pos (by rw [ti_lt]; omega), if_pos (by rw [ti_lt]; omega), if_neg (by rw [ti_lt]; omega), Int32.sub_zero, ho σ ⟨fun _ _ _ _ _ => rfl, fun _ _ => rfl⟩ f (by omega), Option.bind_some, if_pos (inbT (by omega) (show (Int32.ofNat f).toInt < ((80 : Nat) : Int) by omega)), nx_ofNat (by omega)]
    simp only []
    rw [p_mz hw, Option.bind_some]
    simp only []
    unfold c_recordGroup_103
    rw [ofNat_succ]
    have go : ∀ σ1 : Sg, SameB σ σ1 → (∀ k j, j ≠ f → gi σ1 k j = gi σ k j) → gi σ1 6 f = mzv σ (gi σ 6 f) (R f) → gi σ1 8 f = (if R f = gb then gi σ 8 f else if gi σ 8 f = 0 then 1 else gi σ 8 f) → gi σ1 7 f = (if R f = gb then gi σ 7 f else if gi σ 8 f = 0 then p else gi σ 7 f) →
        ∃ σ', c_recordGroup_18 n gb p 0 (Int32.ofNat e) (Int32.ofNat (f + 1)) σ1 = some σ' ∧ RecV σ p gb R f e σ' := by
      intro σ1 a1 a3 a4 a5 a6
      have w11 := a1.1 0 11 (by decide) (by decide) (by decide)
      obtain ⟨σ', q, r1, r3, r4⟩ := ih n (f + 1) σ1 (by omega) (by omega) (by rw [w11]; exact hw) (fun s s1 j hj => ho s ⟨fun k j x y z => (s1.1 k j x y z).trans (a1.1 k j x y z), fun k j => (s1.2 k j).trans (a1.2 k j)⟩ j hj)
      refine ⟨σ', q, ⟨fun k j x y z => (r1.1 k j x y z).trans (a1.1 k j x y z), fun k j => (r1.2 k j).trans (a1.2 k j)⟩, fun k j x => (r3 k j (by omega)).trans (a3 k j (by omega)), fun j x y => ?_⟩
      by_cases c : j = f
      · subst c
        rw [r3 6 j (by omega), r3 8 j (by omega), r3 7 j (by omega)]
        exact ⟨a4, a5, a6⟩
      · have t := r4 j (by omega) y
        rw [a3 6 j c, a3 8 j c, a3 7 j c, mz_cg (a1.1 0 14 (by decide) (by decide) (by decide)) w11 (a1.1 0 16 (by decide) (by decide) (by decide)) hw] at t
        exact t
    by_cases c : R f = gb
    · rw [if_pos c]
      exact go _ ⟨fun k j x _ _ => by rw [gi_si, if_neg (fun w => x w.1)], fun _ _ => rfl⟩ (fun k j x => by rw [gi_si, if_neg (fun w => x w.2)]) (by rw [gi_si, if_pos ⟨rfl, rfl⟩]) (by rw [if_pos c]; simp [gi_si]) (by rw [if_pos c]; simp [gi_si])
    · rw [if_neg c]
      by_cases d : gi σ 8 f = 0
      · rw [if_pos d]
        exact go _ ⟨fun k j x y z => by simp [gi_si, x, y, z], fun _ _ => rfl⟩ (fun k j x => by simp [gi_si, x]) (by simp [gi_si]) (by rw [if_neg c, if_pos d]; simp [gi_si]) (by rw [if_neg c, if_pos d]; simp [gi_si])
      · rw [if_neg d]
        exact go _ ⟨fun k j x _ _ => by rw [gi_si, if_neg (fun w => x w.1)], fun _ _ => rfl⟩ (fun k j x => by rw [gi_si, if_neg (fun w => x w.2)]) (by rw [gi_si, if_pos ⟨rfl, rfl⟩]) (by rw [if_neg c, if_neg d]; simp [gi_si]) (by rw [if_neg c, if_neg d]; simp [gi_si])
theorem rg_v {R : Nat → Int32} {p gb : Int32} {σ : Sg} (H : LOk σ) (h32 : scN σ ≤ 32) (ho : ∀ j, j < 2 * scN σ → c_outputWordAt (Int32.ofNat j) σ = some (R j, σ)) : ∃ σ', c_recordGroup 0 gb p σ = some σ' ∧ RecV σ p gb R 0 (2 * scN σ) σ' := by
  have hg : ∀ {β : Type} (f : Int32 × Sg → Option β), (c_groupFirst 0 σ).bind f = f ((0 : Int32) <<< ((6 : Int32) &&& 31), σ) := fun f => rfl
  have k0 : (0 : Int32) <<< ((6 : Int32) &&& 31) = 0 := by decide
  have z64 : (0 : Int32) + 64 = 64 := by decide
  have e64 : (64 : Int32).toInt = 64 := rfl
  have hF : 2 * sc σ = Int32.ofNat (2 * scN σ) := sc2 H
  have eF := ti_ofNat (n := 2 * scN σ) (by omega)
  have he : c_groupEnd 0 σ = some (Int32.ofNat (2 * scN σ), σ) := by
    unfold c_groupEnd
    rw [hg, k0]
    simp only []
    rw [p_fc, Option.bind_some, hF, z64]
    by_cases c : Int32.ofNat (2 * scN σ) < 64
    · exact if_pos c
    · rw [ti_lt] at c
      have : Int32.ofNat (2 * scN σ) = 64 := by rw [ti_eq]; omega
      rw [this]
      exact if_neg (show ¬ (64 : Int32) < 64 by decide)
  unfold c_recordGroup
  rw [hg, k0]
  simp only []
  rw [he, Option.bind_some]
  have hw : gi σ 0 11 ≠ 0 := fun q => by
    have := H.2.2.2.2.2.2.1
    rw [q] at this
    exact absurd this (by decide)
  exact rl_v p gb (2 * scN σ) (by omega) (2 * scN σ) 400 0 σ (by omega) (by omega) hw (fun s S j hj => ow_same S (ho j hj))
/-! a pattern -/
def PatV (σ σ' : Sg) : Prop := (∀ k j, k ≠ 6 → k ≠ 7 → k ≠ 8 → (k = 0 → j ≠ 17 ∧ j ≠ 18 ∧ j ≠ 19) → gi σ' k j = gi σ k j) ∧ gi σ' 0 17 = gi σ 0 17 + 1 ∧ gi σ' 0 18 = lstep (gi σ 0 18) ∧ gi σ' 0 19 = mzv σ (gi σ 0 19) (owv σ (gi σ 0 18) (-1) 0) ∧ (∀ k j, 2 * scN σ ≤ j → k ≠ 0 → gi σ' k j = gi σ k j) ∧
  ∀ j, j < 2 * scN σ → gi σ' 6 j = mzv σ (gi σ 6 j) (owv σ (gi σ 0 18) 0 (Int32.ofNat j)) ∧ gi σ' 8 j = (if owv σ (gi σ 0 18) 0 (Int32.ofNat j) = owv σ (gi σ 0 18) (-1) 0 then gi σ 8 j else if gi σ 8 j = 0 then 1 else gi σ 8 j) ∧ gi σ' 7 j = (if owv σ (gi σ 0 18) 0 (Int32.ofNat j) = owv σ (gi σ 0 18) (-1) 0 then gi σ 7 j else if gi σ 8 j = 0 then gi σ 0 17 else gi σ 7 j)
def WI (σ : Sg) : Prop := LOk σ ∧ scN σ ≤ 32 ∧ NetOk σ
theorem WI.same {σ σ' : Sg} (w : WI σ) (h : ∀ k j, k ≤ 4 → (k = 0 → j = 9 ∨ j = 11 ∨ j = 13 ∨ j = 14) → gi σ' k j = gi σ k j) : WI σ' := by
  obtain ⟨H, h32, W1, W2⟩ := w
  have z9 := h 0 9 (by decide) (fun _ => Or.inl rfl)
  have z11 := h 0 11 (by decide) (fun _ => Or.inr (Or.inl rfl))
  have z13 := h 0 13 (by decide) (fun _ => Or.inr (Or.inr (Or.inl rfl)))
  have z14 := h 0 14 (by decide) (fun _ => Or.inr (Or.inr (Or.inr rfl)))
  refine ⟨?_, ?_, fun k hk => ?_, fun k hk => ?_⟩
  · unfold LOk; rw [z9, z11, z13, z14]; exact H
  · unfold scN; rw [z9, z13]; exact h32
  · rw [z13] at hk
    rw [z9, h 2 k (by decide) (fun q => absurd q (by decide)), h 3 k (by decide) (fun q => absurd q (by decide))]
    exact W1 k hk
  · rw [z14] at hk
    rw [z9, z13, h 4 k (by decide) (fun q => absurd q (by decide))]
    exact W2 k hk
theorem LOk.w {σ : Sg} (H : LOk σ) : gi σ 0 11 ≠ 0 := fun q => by
  have := H.2.2.2.2.2.2.1
  rw [q] at this
  exact absurd this (by decide)
theorem pt_v {σ : Sg} (w : WI σ) : ∃ σ', c_applyPattern σ = some σ' ∧ PatV σ σ' := by
  obtain ⟨H, h32, W⟩ := id w
  have hw := H.w
  obtain ⟨s1, q1, O1⟩ := p_eval (gi σ 0 18) (-1) σ
  have q2 := p_owv q1 0
  have q3 := p_mz (σ := s1) (by rw [O1.1]; exact hw) (gi s1 0 19) (owv σ (gi σ 0 18) (-1) 0)
  obtain ⟨z, hz⟩ : ∃ z, z = mzv s1 (gi s1 0 19) (owv σ (gi σ 0 18) (-1) 0) := ⟨_, rfl⟩
  rw [← hz] at q3
  obtain ⟨s2, hs2⟩ : ∃ s2, s2 = si s1 0 19 z := ⟨_, rfl⟩
  have g2 : ∀ k j, ¬ (k = 0 ∧ j = 19) → gi s2 k j = gi σ k j := fun k j h => by rw [hs2, gi_si, if_neg h, O1.1]
  have w2 : WI s2 := w.same fun k j _ h => g2 k j fun e => by have := h e.1; omega
  have N2 : NEq σ s2 := fun k j _ h => g2 k j fun e => by have := h e.1; omega
  have n2 : scN s2 = scN σ := by unfold scN; rw [g2 0 9 (by simp), g2 0 13 (by simp)]
  have hpos : 1 ≤ scN σ := by have := scN_ti H; have := H.1; have := H.2.2.1; omega
  have q4 : c_groupCount s2 = some (1, s2) := by
    unfold c_groupCount
    rw [p_fc, Option.bind_some]
    have e63 : (63 : Int32).toInt = 63 := rfl
    have eF := ti_ofNat (n := 2 * scN s2) (by omega)
    have ea : (2 * sc s2 + 63).toInt = 2 * (scN s2 : Int) + 63 := by
      rw [show 2 * sc s2 = Int32.ofNat (2 * scN s2) from sc2 w2.1, ti_add (by omega) (by omega), eF, e63]
      omega
    have eu := c_iushr (2 * sc s2 + 63) 6 6 (by decide) (by decide)
    have : XT.ushr (2 * sc s2 + 63) 6 = 1 := by
      rw [ti_eq]
      show ((((2 * sc s2 + 63).toUInt32 >>> ((6 : Int32) &&& 31).toUInt32).toInt32).toInt = (1 : Int32).toInt)
      rw [eu, ea]
      have e1 : (1 : Int32).toInt = 1 := rfl
      rw [e1]
      omega
    show some (XT.ushr (2 * sc s2 + 63) 6, s2) = some (1, s2)
    rw [this]
  obtain ⟨s3, q5, O3⟩ := p_eval (gi σ 0 18) 0 s2
  have g3 : ∀ k j, ¬ (k = 0 ∧ j = 19) → gi s3 k j = gi σ k j := fun k j h => (O3.1 k j).trans (g2 k j h)
  have w3 : WI s3 := w.same fun k j _ h => g3 k j fun e => by have := h e.1; omega
  have n3 : scN s3 = scN σ := by unfold scN; rw [g3 0 9 (by simp), g3 0 13 (by simp)]
  obtain ⟨s4, q6, r1, r3, r4⟩ := rg_v (R := fun j => owv σ (gi σ 0 18) 0 (Int32.ofNat j)) (p := gi σ 0 17) (gb := owv σ (gi σ 0 18) (-1) 0) w3.1 w3.2.1 (fun j _ => by
    have := p_owv q5 (Int32.ofNat j)
    rw [owv_cg N2 W H] at this
    exact this)
  rw [n3] at r3 r4
  have q7 : c_applyPattern_78 (gi σ 0 17) s4 = some (si (si s4 0 17 (gi σ 0 17 + 1)) 0 18 (lstep (gi s4 0 18))) := by
    unfold c_applyPattern_78
    rw [p_lfsr, Option.bind_some]
  refine ⟨si (si s4 0 17 (gi σ 0 17 + 1)) 0 18 (lstep (gi s4 0 18)), ?_, ?_⟩
  · unfold c_applyPattern
    rw [q1, Option.bind_some, q2, Option.bind_some]
    simp only []
    rw [q3, Option.bind_some]
    simp only []
    rw [← hs2, q4, Option.bind_some]
    simp only []
    rw [c_applyPattern_44, if_pos (show (0 : Int32) < 1 by decide), if_pos (show (0 : Int32) < 2 by decide), q5, Option.bind_some, q6, Option.bind_some, c_applyPattern_44, if_neg (show ¬ (0 : Int32) + 1 < 1 by decide)]
    exact q7
  · have h4 : ∀ k j, k ≠ 6 → k ≠ 7 → k ≠ 8 → ¬ (k = 0 ∧ j = 19) → gi s4 k j = gi σ k j := fun k j x y z h => (r1.1 k j x y z).trans (g3 k j h)
    have m3 : ∀ a b, mzv s3 a b = mzv σ a b := mz_cg (g3 0 14 (by simp)) (g3 0 11 (by simp)) (g3 0 16 (by simp)) hw
    have e : ∀ k j, k ≠ 0 → gi (si (si s4 0 17 (gi σ 0 17 + 1)) 0 18 (lstep (gi s4 0 18))) k j = gi s4 k j := fun k j hk => by rw [gi_si, if_neg (fun e => hk e.1), gi_si, if_neg (fun e => hk e.1)]
    refine ⟨fun k j x y z h => ?_, ?_, ?_, ?_, fun k j hj hk => ?_, fun j hj => ?_⟩
    · rw [gi_si, if_neg (fun e => (h e.1).2.1 e.2), gi_si, if_neg (fun e => (h e.1).1 e.2), h4 k j x y z (fun e => (h e.1).2.2 e.2)]
    · rw [gi_si, if_neg (by simp), gi_si, if_pos ⟨rfl, rfl⟩]
    · rw [gi_si, if_pos ⟨rfl, rfl⟩, h4 0 18 (by decide) (by decide) (by decide) (by simp)]
    · rw [gi_si, if_neg (by simp), gi_si, if_neg (by simp), r1.1 0 19 (by decide) (by decide) (by decide), O3.1, hs2, gi_si, if_pos ⟨rfl, rfl⟩, hz, O1.1, mz_cg (O1.1 0 14) (O1.1 0 11) (O1.1 0 16) hw]
    · rw [e k j hk, r3 k j (by omega), g3 k j (fun q => hk q.1)]
    · have t := r4 j (by omega) hj
      rw [g3 6 j (by simp), g3 8 j (by simp), g3 7 j (by simp), m3] at t
      rw [e 6 j (by decide), e 8 j (by decide), e 7 j (by decide)]
      exact t
/-! runs -/
def pats : Nat → Sg → Option Sg
  | 0, σ => some σ
  | n + 1, σ => (c_applyPattern σ).bind (pats n)
theorem run_pats (k : Nat) : ∀ (fuel : Nat) (n i : Int32) (σ : Sg), i.toInt + k = n.toInt → 0 ≤ i.toInt → n.toInt ≤ 64 → k < fuel → c_run_24 fuel n i σ = (pats k σ).bind fun s => some (gi s 0 17, s) := by
  have e64 : (64 : Int32).toInt = 64 := rfl
  induction k with
  | zero =>
    intro fuel n i σ h1 h2 h3 h4
    obtain ⟨f, rfl⟩ : ∃ f, fuel = f + 1 := ⟨fuel - 1, by omega⟩
    rw [c_run_24, if_neg (by rw [ti_lt]; omega)]
    rfl
  | succ k ih =>
    intro fuel n i σ h1 h2 h3 h4
    obtain ⟨f, rfl⟩ : ∃ f, fuel = f + 1 := ⟨fuel - 1, by omega⟩
    have e1 : (i + 1).toInt = i.toInt + 1 := ti_add1 (by omega)
    rw [c_run_24, if_pos (by rw [ti_lt]; omega), if_pos (by rw [ti_lt]; omega)]
    show _ = ((c_applyPattern σ).bind (pats k)).bind _
    cases c_applyPattern σ with
    | none => rfl
    | some s =>
      rw [Option.bind_some, Option.bind_some]
      exact ih f n (i + 1) s (by omega) (by omega) h3 (by omega)
theorem pats_add (a b : Nat) : ∀ σ : Sg, pats (a + b) σ = (pats a σ).bind (pats b) := by
  induction a with
  | zero => intro σ; rw [Nat.zero_add]; rfl
  | succ a ih =>
    intro σ
    rw [show a + 1 + b = (a + b) + 1 by omega]
    show (c_applyPattern σ).bind (pats (a + b)) = ((c_applyPattern σ).bind (pats a)).bind (pats b)
    cases c_applyPattern σ with
    | none => rfl
    | some s => exact ih s
theorem PatV.wi {σ σ' : Sg} (P : PatV σ σ') (w : WI σ) : WI σ' := w.same fun k j h1 h2 => P.1 k j (by omega) (by omega) (by omega) (fun e => by have := h2 e; omega)
/-- what patterns keep -/
def KeepP (σ σ' : Sg) : Prop := ∀ k j, k ≠ 6 → k ≠ 7 → k ≠ 8 → (k = 0 → j ≠ 17 ∧ j ≠ 18 ∧ j ≠ 19) → gi σ' k j = gi σ k j
theorem pats_v (n : Nat) : ∀ σ : Sg, WI σ → ∃ σ', pats n σ = some σ' ∧ WI σ' ∧ KeepP σ σ' ∧ gi σ' 0 17 = gi σ 0 17 + Int32.ofNat n ∧ gi σ' 0 18 = lsteps n (gi σ 0 18) := by
  induction n with
  | zero => intro σ w; exact ⟨σ, rfl, w, fun _ _ _ _ _ _ => rfl, by rw [show Int32.ofNat 0 = 0 from rfl, Int32.add_zero], rfl⟩
  | succ n ih =>
    intro σ w
    obtain ⟨s, q, P⟩ := pt_v w
    obtain ⟨σ', q', w', K, e17, e18⟩ := ih s (P.wi w)
    refine ⟨σ', ?_, w', fun k j a b c d => (K k j a b c d).trans (P.1 k j a b c d), ?_, ?_⟩
    · show (c_applyPattern σ).bind (pats n) = _
      rw [q, Option.bind_some]; exact q'
    · rw [e17, P.2.1, Int32.add_assoc, Int32.add_comm 1, ofNat_succ]
    · rw [e18, P.2.2.1]; rfl
theorem run_v {n : Int32} {σ : Sg} (w : WI σ) (h1 : 1 ≤ n.toInt) (h2 : n.toInt ≤ 64) (ho : gi σ 0 14 ≠ 0) : c_run n σ = (pats (nx n) σ).bind fun s => some (gi s 0 17, s) := by
  have e1 : (1 : Int32).toInt = 1 := rfl
  have e64 : (64 : Int32).toInt = 64 := rfl
  unfold c_run
  rw [if_neg (by rw [ti_lt]; omega), if_neg (by rw [ti_lt]; omega), if_neg ho]
  exact run_pats (nx n) 400 n 0 σ (by unfold nx; show (0 : Int) + _ = _; omega) (by decide) h2 (by unfold nx; omega)
/-! two states that differ in lanes alone -/
def EqI (σ τ : Sg) : Prop := (∀ k j, k ≤ 5 → gi τ k j = gi σ k j) ∧ ∀ k j, 6 ≤ k → k ≤ 8 → j < 80 → gi τ k j = gi σ k j
theorem EqI.wi {σ τ : Sg} (E : EqI σ τ) (w : WI σ) : WI τ := w.same fun k j h _ => E.1 k j (by omega)
theorem pat_eqI {σ τ σ' τ' : Sg} (w : WI σ) (E : EqI σ τ) (P : PatV σ σ') (Q : PatV τ τ') : EqI σ' τ' := by
  obtain ⟨P1, P2, P3, P4, P5, P6⟩ := P
  obtain ⟨Q1, Q2, Q3, Q4, Q5, Q6⟩ := Q
  have N : NEq σ τ := fun k j h _ => E.1 k j h
  have z : ∀ j, gi τ 0 j = gi σ 0 j := fun j => E.1 0 j (by decide)
  have hs : scN τ = scN σ := by unfold scN; rw [z, z]
  have hm : ∀ a b, mzv τ a b = mzv σ a b := mz_cg (z 14) (z 11) (z 16) w.1.w
  have ho : ∀ l g k, owv τ l g k = owv σ l g k := owv_cg N w.2.2 w.1
  rw [hs] at Q5 Q6
  refine ⟨fun k j hk => ?_, fun k j h6 h8 hj => ?_⟩
  · by_cases c : k = 0 ∧ (j = 17 ∨ j = 18 ∨ j = 19)
    · obtain ⟨rfl, c⟩ := c
      rcases c with rfl | rfl | rfl
      · rw [P2, Q2, z]
      · rw [P3, Q3, z]
      · rw [P4, Q4, z, z, hm, ho]
    · rw [P1 k j (by omega) (by omega) (by omega) (fun q => by omega), Q1 k j (by omega) (by omega) (by omega) (fun q => by omega)]
      exact E.1 k j hk
  · by_cases c : j < 2 * scN σ
    · obtain ⟨p6, p8, p7⟩ := P6 j c
      obtain ⟨r6, r8, r7⟩ := Q6 j c
      rw [z 18, hm, ho, E.2 6 j (by decide) (by decide) hj] at r6
      rw [z 18, ho, ho, E.2 8 j (by decide) (by decide) hj] at r8
      rw [z 18, z 17, ho, ho, E.2 8 j (by decide) (by decide) hj, E.2 7 j (by decide) (by decide) hj] at r7
      have : k = 6 ∨ k = 7 ∨ k = 8 := by omega
      rcases this with rfl | rfl | rfl
      · rw [p6, r6]
      · rw [p7, r7]
      · rw [p8, r8]
    · rw [P5 k j (by omega) (by omega), Q5 k j (by omega) (by omega)]
      exact E.2 k j h6 h8 hj
theorem pats_eqI (n : Nat) : ∀ σ τ σ' : Sg, WI σ → EqI σ τ → pats n σ = some σ' → ∃ τ', pats n τ = some τ' ∧ EqI σ' τ' := by
  induction n with
  | zero => intro σ τ σ' w E h; cases h; exact ⟨τ, rfl, E⟩
  | succ n ih =>
    intro σ τ σ' w E h
    obtain ⟨s, q, P⟩ := pt_v w
    obtain ⟨t, r, Q⟩ := pt_v (E.wi w)
    have h' : (c_applyPattern σ).bind (pats n) = some σ' := h
    rw [q, Option.bind_some] at h'
    obtain ⟨τ', z, E'⟩ := ih s t σ' (P.wi w) (pat_eqI w E P Q) h'
    refine ⟨τ', ?_, E'⟩
    show (c_applyPattern τ).bind (pats n) = _
    rw [r, Option.bind_some]; exact z
/-! a gate more, an output more -/
def Clr (σ : Sg) : Prop := ∀ j, j < 80 → gi σ 6 j = 0 ∧ gi σ 7 j = -1 ∧ gi σ 8 j = 0
theorem resetC {x : Int32} {σ σ' : Sg} (h : c_resetFault x σ = some σ') (C : Clr σ) : Clr σ' := by
  unfold c_resetFault at h
  by_cases a : x < 0
  · rw [if_pos a] at h; cases h; exact C
  · rw [if_neg a] at h
    by_cases b : x < 80
    · rw [if_pos b] at h
      by_cases c : inb x 80 = true
      · rw [if_pos c] at h
        cases h
        intro j hj
        obtain ⟨c6, c7, c8⟩ := C j hj
        refine ⟨?_, ?_, ?_⟩ <;> simp [gi_si, c6, c7, c8]
      · rw [if_neg c] at h; cases h
    · rw [if_neg b] at h; cases h; exact C
def AddN (σ σ' : Sg) : Prop := AddK σ σ' ∧ (∀ k j, 1 ≤ k → k ≤ 3 → j ≠ nx (gi σ 0 13) → gi σ' k j = gi σ k j) ∧ (gi σ' 2 (nx (gi σ 0 13))).toInt < (sc σ).toInt ∧ (gi σ' 3 (nx (gi σ 0 13))).toInt < (sc σ).toInt ∧ (Clr σ → Clr σ')
theorem p_appN {σ : Sg} (H : LOk σ) (h : (gi σ 0 13).toInt < 32) {a b c : Int32} (hb : b < sc σ) (hc : c < sc σ) : ∃ σ', c_appendGate a b c σ = some (sc σ, σ') ∧ AddN σ σ' := by
  have e0 : (0 : Int32).toInt = 0 := rfl
  have e32 : (32 : Int32).toInt = 32 := rfl
  have g0 := H.2.2.1
  unfold c_appendGate
  rw [if_neg (by rw [ti_lt]; omega), if_pos (by rw [ti_lt]; omega), if_pos (inbT (by omega) (show (gi σ 0 13).toInt < ((32 : Nat) : Int) by omega))]
  obtain ⟨σ1, q1, K1⟩ := p_resetK (2 * (gi σ 0 9 + gi σ 0 13)) (si (si (si (si σ 1 (nx (gi σ 0 13)) a) 2 (nx (gi σ 0 13)) b) 3 (nx (gi σ 0 13)) c) 0 13 (gi σ 0 13 + 1))
  obtain ⟨σ2, q2, K2⟩ := p_resetK (2 * (gi σ 0 9 + gi σ 0 13) + 1) σ1
  rw [q1, Option.bind_some, q2, Option.bind_some]
  have K := K1.trans K2
  rw [ti_lt] at hb hc
  refine ⟨σ2, rfl, ⟨?_, fun j ne => ?_, fun j => ⟨?_, ?_⟩, fun f => ?_⟩, fun k j h1 h2 ne => ?_, ?_, ?_, fun C => resetC q2 (resetC q1 (fun j hj => by
    obtain ⟨c6, c7, c8⟩ := C j hj
    refine ⟨?_, ?_, ?_⟩ <;> simp [gi_si, c6, c7, c8]))⟩
  · rw [K.1 0 13 (by decide) (by decide) (by decide)]; simp [gi_si]
  · rw [K.1 0 j (by decide) (by decide) (by decide)]; simp [gi_si, ne]
  · rw [K.1 4 j (by decide) (by decide) (by decide)]; simp [gi_si]
  · rw [K.1 5 j (by decide) (by decide) (by decide)]; simp [gi_si]
  · rcases K.2 f with ⟨a1, a2⟩ | a1
    · left; rw [a1, a2]; simp [gi_si]
    · exact Or.inr a1
  · rw [K.1 k j (by omega) (by omega) (by omega), gi_si, if_neg (by omega), gi_si, if_neg (fun e => ne e.2), gi_si, if_neg (fun e => ne e.2), gi_si, if_neg (fun e => ne e.2)]
  · rw [K.1 2 _ (by decide) (by decide) (by decide), gi_si, if_neg (by simp), gi_si, if_neg (by simp), gi_si, if_pos ⟨rfl, rfl⟩]; exact hb
  · rw [K.1 3 _ (by decide) (by decide) (by decide), gi_si, if_neg (by simp), gi_si, if_pos ⟨rfl, rfl⟩]; exact hc
theorem p_addN {σ : Sg} (H : LOk σ) (h : (gi σ 0 10).toInt ≤ 32) (k a b : Int32) : (okA σ k a b = false ∧ c_addGate k a b σ = some (-1, σ)) ∨ (okA σ k a b = true ∧ ∃ σ', c_addGate k a b σ = some (sc σ, σ') ∧ AddN σ σ') := by
  rcases p_add H h k a b with z | ⟨hok, -⟩
  · exact Or.inl z
  · right
    refine ⟨hok, ?_⟩
    obtain ⟨h1, h2, h3, h4, h5, h6, h7⟩ := okA_iff.mp hok
    have hg : (gi σ 0 13).toInt < 32 := by rw [ti_lt] at h2; omega
    unfold c_addGate
    simp only [p_kind, p_isS, p_two, Option.bind_some]
    by_cases h8 : 5 < k
    · obtain ⟨σ', q, K⟩ := p_appN H hg (a := k) h6 h6
      refine ⟨σ', ?_, K⟩
      simp [h1, h2, h3, h4, h5, h6, h8, c_addGate_64, c_addGate_77, q]
    · obtain ⟨h9, h10⟩ := h7 h8
      obtain ⟨σ', q, K⟩ := p_appN H hg (a := k) h6 h10
      refine ⟨σ', ?_, K⟩
      simp [h1, h2, h3, h4, h5, h6, h8, h9, h10, c_addGate_64, c_addGate_77, q]
theorem AddN.wi {σ σ' : Sg} (A : AddN σ σ') (w : WI σ) (h : scN σ ≤ 31) : WI σ' := by
  obtain ⟨⟨K1, K2, K3, -⟩, A1, A2, A3, -⟩ := A
  obtain ⟨H, h32, W1, W2⟩ := w
  have hs := scN_ti H
  have hsc := sc_ti H
  obtain ⟨a, b, c, d, e, f, g, i⟩ := H
  have h13 : (gi σ' 0 13).toInt = (gi σ 0 13).toInt + 1 := by rw [K1]; exact ti_add1 (by omega)
  have en : ((nx (gi σ 0 13) : Nat) : Int) = (gi σ 0 13).toInt := by unfold nx; omega
  have z9 := K2 9 (by decide)
  have z14 := K2 14 (by decide)
  have z11 := K2 11 (by decide)
  refine ⟨⟨?_, ?_, by omega, by omega, ?_, ?_, ?_, ?_⟩, ?_, fun k hk => ?_, fun k hk => ?_⟩
  · rw [z9]; exact a
  · rw [z9]; exact b
  · rw [z14]; exact e
  · rw [z14]; exact f
  · rw [z11]; exact g
  · rw [z11]; exact i
  · unfold scN; rw [z9, h13]; omega
  · rw [z9]
    by_cases q : k = nx (gi σ 0 13)
    · subst q
      exact ⟨by omega, by omega⟩
    · rw [A1 2 k (by decide) (by decide) q, A1 3 k (by decide) (by decide) q]
      exact W1 k (by omega)
  · rw [z9, h13, (K3 k).1]
    rw [z14] at hk
    have := W2 k hk
    omega
theorem markN {σ : Sg} (w : WI σ) {x : Int32} (hok : okM σ x = true) : WI (si (si (si σ 5 (nx x) 1) 4 (nx (gi σ 0 14)) x) 0 14 (gi σ 0 14 + 1)) := by
  obtain ⟨H, h32, W1, W2⟩ := w
  obtain ⟨m1, m2, m3, m4, m5⟩ := okM_iff.mp hok
  have hsc := sc_ti H
  obtain ⟨a, b, c, d, e, f, g, i⟩ := H
  rw [ti_lt] at m2 m4
  have e8 : (8 : Int32).toInt = 8 := rfl
  have h14 : (gi σ 0 14 + 1).toInt = (gi σ 0 14).toInt + 1 := ti_add1 (by omega)
  have en : ((nx (gi σ 0 14) : Nat) : Int) = (gi σ 0 14).toInt := by unfold nx; omega
  have z : ∀ k j, k ≠ 5 → k ≠ 4 → ¬ (k = 0 ∧ j = 14) → gi (si (si (si σ 5 (nx x) 1) 4 (nx (gi σ 0 14)) x) 0 14 (gi σ 0 14 + 1)) k j = gi σ k j := fun k j h5 h4 h0 => by rw [gi_si, if_neg h0, gi_si, if_neg (fun q => h4 q.1), gi_si, if_neg (fun q => h5 q.1)]
  have z14 : gi (si (si (si σ 5 (nx x) 1) 4 (nx (gi σ 0 14)) x) 0 14 (gi σ 0 14 + 1)) 0 14 = gi σ 0 14 + 1 := by rw [gi_si, if_pos ⟨rfl, rfl⟩]
  have z9 := z 0 9 (by decide) (by decide) (by simp)
  have z13 := z 0 13 (by decide) (by decide) (by simp)
  have z11 := z 0 11 (by decide) (by decide) (by simp)
  refine ⟨?_, ?_, fun k hk => ?_, fun k hk => ?_⟩
  · unfold LOk
    rw [z9, z13, z11, z14]
    exact ⟨a, b, c, d, by omega, by omega, g, i⟩
  · unfold scN; rw [z9, z13]; exact h32
  · rw [z13] at hk
    rw [z9, z 2 k (by decide) (by decide) (by simp), z 3 k (by decide) (by decide) (by simp)]
    exact W1 k hk
  · rw [z14] at hk
    rw [z9, z13, gi_si, if_neg (by simp), gi_si]
    by_cases q : k = nx (gi σ 0 14)
    · rw [if_pos ⟨rfl, q⟩]; omega
    · rw [if_neg (fun e => q e.2), gi_si, if_neg (by simp)]
      exact W2 k (by omega)
/-! the questions about one fault -/
theorem fobs {σ : Sg} (H : LOk σ) {i : Nat} (hi : i < 2 * scN σ) : c_getFaultSignature (Int32.ofNat i) σ = some (gi σ 6 i, σ) ∧ c_getFirstDetect (Int32.ofNat i) σ = some (if gi σ 8 i = 0 then -1 else gi σ 7 i, σ) ∧ c_isAliased (Int32.ofNat i) σ = some (if gi σ 8 i = 0 then 0 else if gi σ 6 i = gi σ 0 19 then 1 else 0, σ) := by
  have hb : scN σ ≤ 40 := by obtain ⟨a, b, c, d, -⟩ := H; unfold scN; omega
  have ei := ti_ofNat (n := i) (by omega)
  have eF := ti_ofNat (n := 2 * scN σ) (by omega)
  have e0 : (0 : Int32).toInt = 0 := rfl
  have hF : 2 * sc σ = Int32.ofNat (2 * scN σ) := sc2 H
  have hin : inb (Int32.ofNat i) 80 = true := inbT (by omega) (show (Int32.ofNat i).toInt < ((80 : Nat) : Int) by omega)
  have f1 : c_isFault (Int32.ofNat i) σ = some (1, σ) := by
    rw [p_isF, hF, if_neg (by rw [ti_lt]; omega), if_pos (by rw [ti_lt]; omega)]
  refine ⟨?_, ?_, ?_⟩
  · unfold c_getFaultSignature
    rw [f1, Option.bind_some, if_neg (show ¬ (1 : Int32) = 0 by decide), if_pos hin, nx_ofNat (by omega)]
  · unfold c_getFirstDetect
    rw [f1, Option.bind_some, if_neg (show ¬ (1 : Int32) = 0 by decide), p_fdo (by omega) σ, Option.bind_some]
  · unfold c_isAliased
    rw [f1, Option.bind_some, if_neg (show ¬ (1 : Int32) = 0 by decide), if_pos hin, nx_ofNat (by omega)]
    simp only []
    by_cases h : gi σ 8 i = 0
    · rw [if_pos h, if_pos h]
    · rw [if_neg h, if_neg h]
      by_cases d : gi σ 6 i = gi σ 0 19
      · rw [if_pos d, if_pos d]
      · rw [if_neg d, if_neg d]
/-! LogicBist, the own law: a session is what simulation says -/
theorem lsteps_snoc (n : Nat) (l : Int32) : lsteps (n + 1) l = lstep (lsteps n l) := by
  induction n generalizing l with
  | zero => rfl
  | succ n ih => exact ih (lstep l)
theorem and1 (x : Int32) : x &&& 1 = 0 ∨ x &&& 1 = 1 := by
  have h := c_and x 1 (by decide)
  have e1 : (1 : Int32).toInt = 1 := rfl
  have e0 : (0 : Int32).toInt = 0 := rfl
  have a := h.1
  have b := h.2
  rcases (show (x &&& 1).toInt = 0 ∨ (x &&& 1).toInt = 1 by omega) with q | q
  · exact Or.inl (ti_eq.mpr q)
  · exact Or.inr (ti_eq.mpr q)
theorem ushI_lit : ∀ k : Fin 32, ((Int32.ofNat k.1 &&& 31 : Int32).toUInt32) = UInt32.ofNat k.1 := by decide +kernel
theorem ushI_bv (y : Int32) {k : Nat} (h : k < 32) : (XT.ushr y (Int32.ofNat k)).toBitVec = y.toBitVec >>> k := by
  unfold XT.ushr
  rw [ushI_lit ⟨k, h⟩]
  show (y.toUInt32 >>> UInt32.ofNat k).toBitVec = _
  rw [UInt32.toBitVec_shiftRight]
  have : ((UInt32.ofNat k).toBitVec % 32).toNat = k := by
    rw [BitVec.toNat_umod]
    show (UInt32.ofNat k).toNat % 32 = k
    rw [UInt32.toNat_ofNat']
    omega
  rw [BitVec.ushiftRight_eq', this]
  rfl
theorem bitI0 (y : Int32) {k : Nat} (h : k < 32) (q : tbI y k = false) : XT.ushr y (Int32.ofNat k) &&& 1 = 0 := by
  rw [← Int32.toBitVec_inj, Int32.toBitVec_and, ushI_bv y h]
  unfold tbI at q
  apply BitVec.eq_of_getLsbD_eq
  intro i hi
  rw [BitVec.getLsbD_and]
  by_cases e : i = 0
  · subst e; simp [q]
  · have : (1 : Int32).toBitVec.getLsbD i = false := by
      show (1#32).getLsbD i = false
      simp [BitVec.getLsbD_one, e]
    rw [this]; simp
/-! the output word has no bit beyond the outputs -/
theorem ow_bits {σ : Sg} (fuel : Nat) : ∀ (x w j z : Int32) (s' : Sg), c_outputWordAt_16 fuel x w j σ = some (z, s') → 0 ≤ j.toInt → ∀ t : Nat, t < 32 → (gi σ 0 14).toInt ≤ t → tbI z t = tbI w t := by
  have e8 : (8 : Int32).toInt = 8 := rfl
  induction fuel with
  | zero => intro x w j z s' h; cases h
  | succ f ih =>
    intro x w j z s' h hj t ht hg
    rw [c_outputWordAt_16] at h
    by_cases a : j < gi σ 0 14
    · rw [if_pos a] at h
      by_cases b : j < 8
      · rw [if_pos b] at h
        by_cases c : inb j 8 = true
        · rw [if_pos c, p_ll, Option.bind_some] at h
          unfold c_outputWordAt_59 at h
          rw [ti_lt] at a b
          have e1 : (j + 1).toInt = j.toInt + 1 := ti_add1 (by omega)
          by_cases d : XT.cmpL (XT.ushrL (ll σ (gi σ 4 (nx j))) x &&& 1) 0 = 0
          · rw [if_pos d] at h
            exact ih _ _ _ _ _ h (by omega) t ht hg
          · rw [if_neg d] at h
            rw [ih _ _ _ _ _ h (by omega) t ht hg, tbI_or]
            have hb := tbI_bit (k := nx j) (i := t) (by unfold nx; omega) ht
            rw [ofNat_nx hj] at hb
            rw [hb, decide_eq_false (by unfold nx; omega), Bool.or_false]
        · rw [if_neg c] at h; cases h
      · rw [if_neg b] at h; cases h; rfl
    · rw [if_neg a] at h; cases h; rfl
theorem owv_bits {σ : Sg} (l g k : Int32) {t : Nat} (ht : t < 32) (hg : (gi σ 0 14).toInt ≤ t) : tbI (owv σ l g k) t = false := by
  obtain ⟨s, q, O⟩ := p_eval l g σ
  have z := p_owv q k
  unfold c_outputWordAt at z
  by_cases a : k < 0
  · rw [if_pos a] at z
    rw [← (Prod.mk.inj (Option.some.inj z)).1]; exact tbI_zero t
  · rw [if_neg a] at z
    by_cases b : 63 < k
    · rw [if_pos b] at z
      rw [← (Prod.mk.inj (Option.some.inj z)).1]; exact tbI_zero t
    · rw [if_neg b] at z
      rw [ow_bits 400 _ _ _ _ _ z (by decide) t ht (by rw [O.1]; exact hg)]
      exact tbI_zero t
/-! the law's own register -/
theorem lm_tail {r W : Int32} (k : Nat) : ∀ (j fuel : Nat) (x : Int32) (σ : Sg), j + k = 8 → k < fuel → (∀ t, j ≤ t → t < 8 → XT.ushr r (Int32.ofNat t) &&& 1 = 0) → q_misr_22 fuel x r W (Int32.ofNat j) σ = some (x, σ) := by
  have e8 : (8 : Int32).toInt = 8 := rfl
  induction k with
  | zero =>
    intro j fuel x σ h1 h2 hb
    obtain ⟨f, rfl⟩ : ∃ f, fuel = f + 1 := ⟨fuel - 1, by omega⟩
    have ej := ti_ofNat (n := j) (by omega)
    rw [q_misr_22, if_neg (by rw [ti_lt]; omega)]
  | succ k ih =>
    intro j fuel x σ h1 h2 hb
    obtain ⟨f, rfl⟩ : ∃ f, fuel = f + 1 := ⟨fuel - 1, by omega⟩
    have ej := ti_ofNat (n := j) (by omega)
    rw [q_misr_22, if_pos (by rw [ti_lt]; omega), if_neg (by rw [hb j (by omega) (by omega)]; decide)]
    unfold q_misr_48
    rw [ofNat_succ]
    exact ih (j + 1) f x σ (by omega) (by omega) (fun t h3 h4 => hb t (by omega) h4)
theorem lm_loop {σ0 : Sg} {r W : Int32} (hW : gi σ0 0 11 = W) (hb : ∀ t : Nat, t < 8 → (gi σ0 0 14).toInt ≤ t → XT.ushr r (Int32.ofNat t) &&& 1 = 0) (k : Nat) : ∀ (j f1 f2 : Nat) (x z : Int32) (s' σ : Sg), j + k = 8 → k < f1 → k < f2 → c_misrStep_26 f1 r x (Int32.ofNat j) σ0 = some (z, s') → q_misr_22 f2 x r W (Int32.ofNat j) σ = some (z, σ) := by
  have e8 : (8 : Int32).toInt = 8 := rfl
  induction k with
  | zero =>
    intro j f1 f2 x z s' σ h1 h2 h3 h
    obtain ⟨f1, rfl⟩ : ∃ f, f1 = f + 1 := ⟨f1 - 1, by omega⟩
    obtain ⟨f2, rfl⟩ : ∃ f, f2 = f + 1 := ⟨f2 - 1, by omega⟩
    have ej := ti_ofNat (n := j) (by omega)
    have n8 : ¬ Int32.ofNat j < 8 := by rw [ti_lt]; omega
    rw [c_misrStep_26] at h
    rw [q_misr_22, if_neg n8]
    by_cases a : Int32.ofNat j < gi σ0 0 14
    · rw [if_pos a, if_neg n8] at h; cases h; rfl
    · rw [if_neg a] at h; cases h; rfl
  | succ k ih =>
    intro j f1 f2 x z s' σ h1 h2 h3 h
    have tail := lm_tail (r := r) (W := W) (k + 1) j f2 x σ h1 h3
    obtain ⟨f1, rfl⟩ : ∃ f, f1 = f + 1 := ⟨f1 - 1, by omega⟩
    obtain ⟨f2, rfl⟩ : ∃ f, f2 = f + 1 := ⟨f2 - 1, by omega⟩
    have ej := ti_ofNat (n := j) (by omega)
    have y8 : Int32.ofNat j < 8 := by rw [ti_lt]; omega
    rw [c_misrStep_26] at h
    by_cases a : Int32.ofNat j < gi σ0 0 14
    · rw [if_pos a, if_pos y8] at h
      unfold c_misrStep_65 at h
      rw [ofNat_succ] at h
      rw [q_misr_22, if_pos y8]
      unfold q_misr_48
      rw [ofNat_succ]
      by_cases c : XT.ushr r (Int32.ofNat j) &&& 1 = 0
      · rw [if_pos c] at h
        rw [if_neg (by rw [c]; decide)]
        exact ih (j + 1) f1 f2 x z s' σ (by omega) (by omega) (by omega) h
      · rw [if_neg c] at h
        rw [if_pos ((and1 _).resolve_left c)]
        by_cases d : gi σ0 0 11 = 0
        · rw [if_pos d] at h; cases h
        · rw [if_neg d, hW] at h
          rw [if_neg (fun q => d (hW.trans q))]
          exact ih (j + 1) f1 f2 _ z s' σ (by omega) (by omega) (by omega) h
    · rw [if_neg a] at h
      cases h
      rw [ti_lt] at a
      exact tail (fun t h4 h5 => hb t h5 (by omega))
theorem p_qmisr {σ : Sg} (w : WI σ) (S l g k : Int32) (s : Sg) : q_misr S (owv σ l g k) (gi σ 0 16) (gi σ 0 11) s = some (mzv σ S (owv σ l g k), s) := by
  have q := p_mz w.1.w S (owv σ l g k)
  have hb : ∀ t : Nat, t < 8 → (gi σ 0 14).toInt ≤ t → XT.ushr (owv σ l g k) (Int32.ofNat t) &&& 1 = 0 := fun t ht hg => bitI0 _ (by omega) (owv_bits l g k (by omega) hg)
  generalize mzv σ S (owv σ l g k) = z at *
  unfold c_misrStep c_misrStep_23 at q
  unfold q_misr q_misr_19
  by_cases a : S &&& 1 = 1
  · rw [if_pos a] at q ⊢
    exact lm_loop rfl hb 8 0 400 400 _ z _ s (by omega) (by omega) (by omega) q
  · rw [if_neg a] at q ⊢
    exact lm_loop rfl hb 8 0 400 400 _ z _ s (by omega) (by omega) (by omega) q
theorem p_qlfsr (l : Int32) (σ : Sg) : q_lfsr l σ = some (lstep l, σ) := by
  unfold q_lfsr lstep
  split <;> rfl
/-! simulation -/
theorem only_wi {σ s : Sg} (w : WI σ) (O : OnlyL σ s) : WI s := w.same fun k j _ _ => O.1 k j
theorem sim_g {σ s : Sg} (w : WI σ) (O : OnlyL σ s) (l : Int32) : ∃ s', c_simulate l (-1) s = some (owv σ l (-1) 0, s') ∧ OnlyL σ s' := by
  obtain ⟨s', q, O'⟩ := p_eval l (-1) s
  have z := p_owv q 0
  rw [owv_cg (σ := σ) (fun k j _ _ => O.1 k j) w.2.2 w.1] at z
  refine ⟨s', ?_, O.trans O'⟩
  unfold c_simulate
  rw [if_pos rfl, q, Option.bind_some, z, Option.bind_some]
theorem grp0 : ∀ f : Fin 64, XT.ushr (Int32.ofNat f.1) 6 = 0 ∧ Int32.ofNat f.1 &&& 63 = Int32.ofNat f.1 := by decide +kernel
theorem sim_f {σ s : Sg} (w : WI σ) (O : OnlyL σ s) {f : Nat} (hf : f < 2 * scN σ) (l : Int32) : ∃ s', c_simulate l (Int32.ofNat f) s = some (owv σ l 0 (Int32.ofNat f), s') ∧ OnlyL σ s' := by
  have h32 := w.2.1
  have ws := only_wi w O
  have hs : scN s = scN σ := by unfold scN; rw [O.1, O.1]
  obtain ⟨g0, g1⟩ := grp0 ⟨f, by omega⟩
  simp only [] at g0 g1
  have ef := ti_ofNat (n := f) (by omega)
  have eF := ti_ofNat (n := 2 * scN s) (by omega)
  have e0 : (0 : Int32).toInt = 0 := rfl
  have em : (-1 : Int32).toInt = -1 := rfl
  have hF : 2 * sc s = Int32.ofNat (2 * scN s) := sc2 ws.1
  have f1 : c_isFault (Int32.ofNat f) s = some (1, s) := by
    rw [p_isF, hF, if_neg (by rw [ti_lt]; omega), if_pos (by rw [ti_lt]; omega)]
  have f2 : c_groupOfFault (Int32.ofNat f) s = some (0, s) := by unfold c_groupOfFault; rw [g0]
  obtain ⟨s', q, O'⟩ := p_eval l 0 s
  have f3 : c_laneOfFault (Int32.ofNat f) s' = some (Int32.ofNat f, s') := by unfold c_laneOfFault; rw [g1]
  have z := p_owv q (Int32.ofNat f)
  rw [owv_cg (σ := σ) (fun k j _ _ => O.1 k j) w.2.2 w.1] at z
  refine ⟨s', ?_, O.trans O'⟩
  unfold c_simulate
  rw [if_neg (by rw [ti_eq]; omega), f1, Option.bind_some, if_neg (show ¬ (1 : Int32) = 0 by decide)]
  simp only []
  rw [f2, Option.bind_some]
  simp only []
  rw [q, Option.bind_some, f3, Option.bind_some]
  simp only []
  rw [z, Option.bind_some]
/-! a session in figures -/
def gS (σ : Sg) (l : Int32) : Nat → Int32
  | 0 => 0
  | n + 1 => mzv σ (gS σ l n) (owv σ (lsteps n l) (-1) 0)
def fS (σ : Sg) (l : Int32) (f : Nat) : Nat → Int32
  | 0 => 0
  | n + 1 => mzv σ (fS σ l f n) (owv σ (lsteps n l) 0 (Int32.ofNat f))
def fD (σ : Sg) (l : Int32) (f : Nat) : Nat → Int32
  | 0 => -1
  | n + 1 => if fD σ l f n < 0 ∧ ¬ owv σ (lsteps n l) 0 (Int32.ofNat f) = owv σ (lsteps n l) (-1) 0 then Int32.ofNat n else fD σ l f n
theorem fD_neg {σ : Sg} {l : Int32} {f : Nat} (n : Nat) (hn : n < 1000) : fD σ l f n < 0 → fD σ l f n = -1 := by
  induction n with
  | zero => intro _; rfl
  | succ n ih =>
    have en := ti_ofNat (n := n) (by omega)
    have e0 : (0 : Int32).toInt = 0 := rfl
    show (if fD σ l f n < 0 ∧ ¬ owv σ (lsteps n l) 0 (Int32.ofNat f) = owv σ (lsteps n l) (-1) 0 then Int32.ofNat n else fD σ l f n) < 0 → (if fD σ l f n < 0 ∧ ¬ owv σ (lsteps n l) 0 (Int32.ofNat f) = owv σ (lsteps n l) (-1) 0 then Int32.ofNat n else fD σ l f n) = -1
    by_cases c : fD σ l f n < 0 ∧ ¬ owv σ (lsteps n l) 0 (Int32.ofNat f) = owv σ (lsteps n l) (-1) 0
    · rw [if_pos c]
      intro h
      rw [ti_lt] at h
      omega
    · rw [if_neg c]
      exact ih (by omega)
def ScEq (σ τ : Sg) : Prop := ∀ k j, k ≤ 5 → (k = 0 → j = 9 ∨ j = 11 ∨ j = 13 ∨ j = 14 ∨ j = 16) → gi τ k j = gi σ k j
theorem cg3 {σ τ : Sg} (w : WI σ) (S : ScEq σ τ) (l : Int32) : (∀ n, gS τ l n = gS σ l n) ∧ (∀ f n, fS τ l f n = fS σ l f n) ∧ ∀ f n, fD τ l f n = fD σ l f n := by
  have N : NEq σ τ := fun k j hk hj => S k j hk (fun e => by have := hj e; omega)
  have hm : ∀ a b, mzv τ a b = mzv σ a b := mz_cg (S 0 14 (by decide) (by decide)) (S 0 11 (by decide) (by decide)) (S 0 16 (by decide) (by decide)) w.1.w
  have ho : ∀ l g k, owv τ l g k = owv σ l g k := owv_cg N w.2.2 w.1
  refine ⟨fun n => ?_, fun f n => ?_, fun f n => ?_⟩
  · induction n with
    | zero => rfl
    | succ n ih =>
      show mzv τ (gS τ l n) (owv τ (lsteps n l) (-1) 0) = mzv σ (gS σ l n) (owv σ (lsteps n l) (-1) 0)
      rw [ih, hm, ho]
  · induction n with
    | zero => rfl
    | succ n ih =>
      show mzv τ (fS τ l f n) (owv τ (lsteps n l) 0 (Int32.ofNat f)) = mzv σ (fS σ l f n) (owv σ (lsteps n l) 0 (Int32.ofNat f))
      rw [ih, hm, ho]
  · induction n with
    | zero => rfl
    | succ n ih =>
      show (if fD τ l f n < 0 ∧ ¬ owv τ (lsteps n l) 0 (Int32.ofNat f) = owv τ (lsteps n l) (-1) 0 then Int32.ofNat n else fD τ l f n) = (if fD σ l f n < 0 ∧ ¬ owv σ (lsteps n l) 0 (Int32.ofNat f) = owv σ (lsteps n l) (-1) 0 then Int32.ofNat n else fD σ l f n)
      rw [ih, ho, ho]
/-- behind n patterns of a session -/
def Sv (σ : Sg) (n : Nat) : Prop := gi σ 0 17 = Int32.ofNat n ∧ gi σ 0 18 = lsteps n (gi σ 0 15) ∧ gi σ 0 19 = gS σ (gi σ 0 15) n ∧ ∀ f, f < 2 * scN σ → gi σ 6 f = fS σ (gi σ 0 15) f n ∧ gi σ 7 f = fD σ (gi σ 0 15) f n ∧ gi σ 8 f = (if fD σ (gi σ 0 15) f n < 0 then 0 else 1)
theorem Sv.pat {σ σ' : Sg} {n : Nat} (hn : n < 1000) (w : WI σ) (s : Sv σ n) (P : PatV σ σ') : Sv σ' (n + 1) := by
  obtain ⟨s1, s2, s3, s4⟩ := s
  obtain ⟨P1, P2, P3, P4, P5, P6⟩ := P
  have S : ScEq σ σ' := fun k j hk hj => P1 k j (by omega) (by omega) (by omega) (fun e => by have := hj e; omega)
  obtain ⟨c1, c2, c3⟩ := cg3 w S (gi σ 0 15)
  have z15 : gi σ' 0 15 = gi σ 0 15 := P1 0 15 (by decide) (by decide) (by decide) (by decide)
  have hs : scN σ' = scN σ := by unfold scN; rw [S 0 9 (by decide) (by decide), S 0 13 (by decide) (by decide)]
  have en := ti_ofNat (n := n) (by omega)
  have e0 : (0 : Int32).toInt = 0 := rfl
  have nn : ¬ Int32.ofNat n < 0 := by rw [ti_lt]; omega
  refine ⟨?_, ?_, ?_, fun f hf => ?_⟩
  · rw [P2, s1, ofNat_succ]
  · rw [P3, s2, z15, lsteps_snoc]
  · rw [P4, s3, s2, z15, c1]; rfl
  · rw [hs] at hf
    obtain ⟨t6, t7, t8⟩ := s4 f hf
    obtain ⟨p6, p8, p7⟩ := P6 f hf
    rw [z15, c2, c3]
    have hd : fD σ (gi σ 0 15) f (n + 1) = (if fD σ (gi σ 0 15) f n < 0 ∧ ¬ owv σ (lsteps n (gi σ 0 15)) 0 (Int32.ofNat f) = owv σ (lsteps n (gi σ 0 15)) (-1) 0 then Int32.ofNat n else fD σ (gi σ 0 15) f n) := rfl
    rw [s2, t7, t8, s1] at p7
    rw [s2, t8] at p8
    rw [s2, t6] at p6
    refine ⟨p6, ?_, ?_⟩
    · rw [p7, hd]
      by_cases a : owv σ (lsteps n (gi σ 0 15)) 0 (Int32.ofNat f) = owv σ (lsteps n (gi σ 0 15)) (-1) 0
      · rw [if_pos a, if_neg (fun q => q.2 a)]
      · rw [if_neg a]
        by_cases b : fD σ (gi σ 0 15) f n < 0
        · rw [if_pos b, if_pos (show (0 : Int32) = 0 from rfl), if_pos ⟨b, a⟩]
        · rw [if_neg b, if_neg (show ¬ (1 : Int32) = 0 by decide), if_neg (fun q => b q.1)]
    · rw [p8, hd]
      by_cases a : owv σ (lsteps n (gi σ 0 15)) 0 (Int32.ofNat f) = owv σ (lsteps n (gi σ 0 15)) (-1) 0
      · rw [if_pos a]
        rw [show (if fD σ (gi σ 0 15) f n < 0 ∧ ¬ owv σ (lsteps n (gi σ 0 15)) 0 (Int32.ofNat f) = owv σ (lsteps n (gi σ 0 15)) (-1) 0 then Int32.ofNat n else fD σ (gi σ 0 15) f n) = fD σ (gi σ 0 15) f n from if_neg (fun q => q.2 a)]
      · rw [if_neg a]
        by_cases b : fD σ (gi σ 0 15) f n < 0
        · rw [if_pos b, if_pos (show (0 : Int32) = 0 from rfl)]
          rw [show (if fD σ (gi σ 0 15) f n < 0 ∧ ¬ owv σ (lsteps n (gi σ 0 15)) 0 (Int32.ofNat f) = owv σ (lsteps n (gi σ 0 15)) (-1) 0 then Int32.ofNat n else fD σ (gi σ 0 15) f n) = Int32.ofNat n from if_pos ⟨b, a⟩, if_neg nn]
        · rw [if_neg b, if_neg (show ¬ (1 : Int32) = 0 by decide)]
          rw [show (if fD σ (gi σ 0 15) f n < 0 ∧ ¬ owv σ (lsteps n (gi σ 0 15)) 0 (Int32.ofNat f) = owv σ (lsteps n (gi σ 0 15)) (-1) 0 then Int32.ofNat n else fD σ (gi σ 0 15) f n) = fD σ (gi σ 0 15) f n from if_neg (fun q => b q.1), if_neg b]
theorem Sv.run (k : Nat) : ∀ (σ : Sg) (n : Nat), n + k < 1000 → WI σ → Sv σ n → ∃ σ', pats k σ = some σ' ∧ WI σ' ∧ KeepP σ σ' ∧ Sv σ' (n + k) := by
  induction k with
  | zero => intro σ n h w s; exact ⟨σ, rfl, w, fun _ _ _ _ _ _ => rfl, s⟩
  | succ k ih =>
    intro σ n h w s
    obtain ⟨s1, q, P⟩ := pt_v w
    obtain ⟨σ', q', w', K, s'⟩ := ih s1 (n + 1) (by omega) (P.wi w) (s.pat (by omega) w P)
    refine ⟨σ', ?_, w', fun k j a b c d => (K k j a b c d).trans (P.1 k j a b c d), ?_⟩
    · show (c_applyPattern σ).bind (pats k) = _
      rw [q, Option.bind_some]; exact q'
    · rw [show n + (k + 1) = n + 1 + k by omega]; exact s'
theorem Sv.only {σ s : Sg} {n : Nat} (w : WI σ) (S : Sv σ n) (O : OnlyL σ s) : Sv s n := by
  obtain ⟨s1, s2, s3, s4⟩ := S
  obtain ⟨c1, c2, c3⟩ := cg3 (τ := s) w (fun k j _ _ => O.1 k j) (gi σ 0 15)
  have hs : scN s = scN σ := by unfold scN; rw [O.1, O.1]
  refine ⟨?_, ?_, ?_, fun f hf => ?_⟩
  · rw [O.1]; exact s1
  · rw [O.1, O.1]; exact s2
  · rw [O.1, O.1, c1]; exact s3
  · rw [hs] at hf
    rw [O.1, O.1, O.1, O.1, c2, c3]
    exact s4 f hf
/-! the check -/
theorem c35 {σ : Sg} {n : Nat} (hn : n < 1000) (w : WI σ) (S : Sv σ n) {F : Int32} (k : Nat) : ∀ (p fuel : Nat) (s : Sg), p + k = n → k < fuel → OnlyL σ s →
    ∃ s', OnlyL σ s' ∧ q_check_35 fuel (gi σ 0 15) (gi σ 0 16) (gi σ 0 11) F (Int32.ofNat n) (gS σ (gi σ 0 15) p) (lsteps p (gi σ 0 15)) (Int32.ofNat p) s = q_check_89 400 (gi σ 0 15) (gi σ 0 16) (gi σ 0 11) F (Int32.ofNat n) (gS σ (gi σ 0 15) n) 0 s' := by
  have en := ti_ofNat (n := n) (by omega)
  induction k with
  | zero =>
    intro p fuel s h1 h2 O
    obtain ⟨f, rfl⟩ : ∃ f, fuel = f + 1 := ⟨fuel - 1, by omega⟩
    have hp : p = n := by omega
    subst hp
    have g : c_getGoldenSignature s = some (gS σ (gi σ 0 15) p, s) := by unfold c_getGoldenSignature; rw [O.1, S.2.2.1]
    refine ⟨s, O, ?_⟩
    rw [q_check_35, if_neg (by rw [ti_lt]; omega), g, Option.bind_some, if_pos rfl]
  | succ k ih =>
    intro p fuel s h1 h2 O
    obtain ⟨f, rfl⟩ : ∃ f, fuel = f + 1 := ⟨fuel - 1, by omega⟩
    have ep := ti_ofNat (n := p) (by omega)
    obtain ⟨s1, q1, O1⟩ := sim_g w O (lsteps p (gi σ 0 15))
    obtain ⟨s', O', q⟩ := ih (p + 1) f s1 (by omega) (by omega) O1
    refine ⟨s', O', ?_⟩
    rw [lsteps_snoc, show gS σ (gi σ 0 15) (p + 1) = mzv σ (gS σ (gi σ 0 15) p) (owv σ (lsteps p (gi σ 0 15)) (-1) 0) from rfl] at q
    rw [q_check_35, if_pos (by rw [ti_lt]; omega), q1, Option.bind_some]
    simp only []
    rw [p_qmisr w, Option.bind_some]
    simp only []
    rw [p_qlfsr, Option.bind_some, ofNat_succ]
    exact q
theorem c108 {σ : Sg} {n : Nat} (hn : n < 1000) (w : WI σ) (S : Sv σ n) {F : Int32} {K : Int32 → Int32 → Int32 → Int32 → Int32 → Int32 → Int32 → Sg → Option (Int32 × Sg)} {f : Nat} (hf : f < 2 * scN σ) (k : Nat) : ∀ (p fuel : Nat) (s : Sg), p + k = n → k < fuel → OnlyL σ s →
    ∃ s', OnlyL σ s' ∧ q_check_108 K fuel (gi σ 0 15) (gi σ 0 16) (gi σ 0 11) F (Int32.ofNat n) (lsteps p (gi σ 0 15)) (gS σ (gi σ 0 15) n) (Int32.ofNat f) (fS σ (gi σ 0 15) f p) (fD σ (gi σ 0 15) f p) (Int32.ofNat p) s = K (gi σ 0 15) (gi σ 0 16) (gi σ 0 11) F (Int32.ofNat n) (gS σ (gi σ 0 15) n) (Int32.ofNat f + 1) s' := by
  have en := ti_ofNat (n := n) (by omega)
  induction k with
  | zero =>
    intro p fuel s h1 h2 O
    obtain ⟨fu, rfl⟩ : ∃ f, fuel = f + 1 := ⟨fuel - 1, by omega⟩
    have hp : p = n := by omega
    subst hp
    have ws := only_wi w O
    have hs : scN s = scN σ := by unfold scN; rw [O.1, O.1]
    obtain ⟨o1, o2, o3⟩ := fobs ws.1 (i := f) (by omega)
    obtain ⟨t6, t7, t8⟩ := S.2.2.2 f hf
    rw [O.1, t6] at o1
    rw [O.1, O.1, t7, t8] at o2
    rw [O.1, O.1, O.1, t6, t8, S.2.2.1] at o3
    refine ⟨s, O, ?_⟩
    rw [q_check_108, if_neg (by rw [ti_lt]; omega)]
    unfold q_check_216 q_check_217
    by_cases c : fD σ (gi σ 0 15) f p < 0
    · rw [if_pos c, if_pos (show (0 : Int32) = 0 from rfl), ← fD_neg p hn c] at o2
      rw [if_pos c, if_pos (show (0 : Int32) = 0 from rfl)] at o3
      rw [o2, Option.bind_some, if_pos rfl]
      simp only []
      rw [o1, Option.bind_some, if_pos rfl, if_pos c]
      simp only []
      rw [o3, Option.bind_some, if_pos rfl]
    · rw [if_neg c, if_neg (show ¬ (1 : Int32) = 0 by decide)] at o2
      rw [if_neg c, if_neg (show ¬ (1 : Int32) = 0 by decide)] at o3
      rw [o2, Option.bind_some, if_pos rfl]
      simp only []
      rw [o1, Option.bind_some, if_pos rfl, if_neg c]
      simp only []
      by_cases d : fS σ (gi σ 0 15) f p = gS σ (gi σ 0 15) p
      · rw [if_pos d] at o3
        rw [if_pos d, o3, Option.bind_some, if_pos rfl]
      · rw [if_neg d] at o3
        rw [if_neg d, o3, Option.bind_some, if_pos rfl]
  | succ k ih =>
    intro p fuel s h1 h2 O
    obtain ⟨fu, rfl⟩ : ∃ f, fuel = f + 1 := ⟨fuel - 1, by omega⟩
    have ep := ti_ofNat (n := p) (by omega)
    obtain ⟨s1, q1, O1⟩ := sim_f w O hf (lsteps p (gi σ 0 15))
    obtain ⟨s2, q2, O2⟩ := sim_g w O1 (lsteps p (gi σ 0 15))
    obtain ⟨s', O', q⟩ := ih (p + 1) fu s2 (by omega) (by omega) O2
    refine ⟨s', O', ?_⟩
    rw [lsteps_snoc, show fS σ (gi σ 0 15) f (p + 1) = mzv σ (fS σ (gi σ 0 15) f p) (owv σ (lsteps p (gi σ 0 15)) 0 (Int32.ofNat f)) from rfl, show fD σ (gi σ 0 15) f (p + 1) = (if fD σ (gi σ 0 15) f p < 0 ∧ ¬ owv σ (lsteps p (gi σ 0 15)) 0 (Int32.ofNat f) = owv σ (lsteps p (gi σ 0 15)) (-1) 0 then Int32.ofNat p else fD σ (gi σ 0 15) f p) from rfl] at q
    rw [q_check_108, if_pos (by rw [ti_lt]; omega), q1, Option.bind_some]
    simp only []
    rw [q2, Option.bind_some]
    simp only []
    unfold q_check_150
    by_cases b : fD σ (gi σ 0 15) f p < 0
    · rw [if_pos b]
      by_cases a : owv σ (lsteps p (gi σ 0 15)) 0 (Int32.ofNat f) = owv σ (lsteps p (gi σ 0 15)) (-1) 0
      · rw [if_neg (fun z => z.2 a)] at q
        rw [if_pos a, p_qmisr w, Option.bind_some]
        simp only []
        rw [p_qlfsr, Option.bind_some, ofNat_succ]
        exact q
      · rw [if_pos ⟨b, a⟩] at q
        rw [if_neg a, p_qmisr w, Option.bind_some]
        simp only []
        rw [p_qlfsr, Option.bind_some, ofNat_succ]
        exact q
    · rw [if_neg (fun z => b z.1)] at q
      rw [if_neg b, p_qmisr w, Option.bind_some]
      simp only []
      rw [p_qlfsr, Option.bind_some, ofNat_succ]
      exact q
theorem c89 {σ : Sg} {n : Nat} (hn : n ≤ 390) (w : WI σ) (S : Sv σ n) (k : Nat) : ∀ (f fuel : Nat) (s : Sg), f + k = 2 * scN σ → k < fuel → OnlyL σ s →
    ∃ s', OnlyL σ s' ∧ q_check_89 fuel (gi σ 0 15) (gi σ 0 16) (gi σ 0 11) (Int32.ofNat (2 * scN σ)) (Int32.ofNat n) (gS σ (gi σ 0 15) n) (Int32.ofNat f) s = q_check_241 400 (Int32.ofNat (2 * scN σ)) (Int32.ofNat n) (-1) s' := by
  have h32 := w.2.1
  have eF := ti_ofNat (n := 2 * scN σ) (by omega)
  induction k with
  | zero =>
    intro f fuel s h1 h2 O
    obtain ⟨fu, rfl⟩ : ∃ f, fuel = f + 1 := ⟨fuel - 1, by omega⟩
    have ef := ti_ofNat (n := f) (by omega)
    refine ⟨s, O, ?_⟩
    rw [q_check_89, if_neg (by rw [ti_lt]; omega)]
  | succ k ih =>
    intro f fuel s h1 h2 O
    obtain ⟨fu, rfl⟩ : ∃ f, fuel = f + 1 := ⟨fuel - 1, by omega⟩
    have ef := ti_ofNat (n := f) (by omega)
    obtain ⟨s1, O1, q⟩ := c108 (by omega) w S (F := Int32.ofNat (2 * scN σ)) (K := q_check_89 fu) (f := f) (by omega) n 0 400 s (by omega) (by omega) O
    obtain ⟨s', O', q'⟩ := ih (f + 1) fu s1 (by omega) (by omega) O1
    refine ⟨s', O', ?_⟩
    rw [show lsteps 0 (gi σ 0 15) = gi σ 0 15 from rfl, show fS σ (gi σ 0 15) f 0 = 0 from rfl, show fD σ (gi σ 0 15) f 0 = -1 from rfl, show Int32.ofNat 0 = 0 from rfl, ofNat_succ] at q
    rw [q_check_89, if_pos (by rw [ti_lt]; omega), q]
    exact q'
theorem c254 {s : Sg} (H : LOk s) {N p : Int32} {K : Int32 → Int32 → Int32 → Sg → Option (Int32 × Sg)} (k : Nat) : ∀ (f fuel : Nat), f + k = 2 * scN s → k < fuel →
    q_check_254 K fuel (Int32.ofNat (2 * scN s)) N p (Int32.ofNat (cntF (cvB s p) f)) (Int32.ofNat f) s = (c_coverageAt p s).bind fun r2 => if r2.1 = Int32.ofNat (cntF (cvB s p) (2 * scN s)) then K (Int32.ofNat (2 * scN s)) N (p + 1) r2.2 else some (0, r2.2) := by
  have hb : scN s ≤ 40 := by obtain ⟨a, b, c, d, -⟩ := H; unfold scN; omega
  have eF := ti_ofNat (n := 2 * scN s) (by omega)
  induction k with
  | zero =>
    intro f fuel h1 h2
    obtain ⟨fu, rfl⟩ : ∃ f, fuel = f + 1 := ⟨fuel - 1, by omega⟩
    have hf : f = 2 * scN s := by omega
    subst hf
    rw [q_check_254, if_neg (by rw [ti_lt]; omega)]
  | succ k ih =>
    intro f fuel h1 h2
    obtain ⟨fu, rfl⟩ : ∃ f, fuel = f + 1 := ⟨fuel - 1, by omega⟩
    have ef := ti_ofNat (n := f) (by omega)
    obtain ⟨-, o2, -⟩ := fobs H (i := f) (by omega)
    have z := ih (f + 1) fu (by omega) (by omega)
    rw [q_check_254, if_pos (by rw [ti_lt]; omega), o2, Option.bind_some]
    unfold q_check_284
    simp only []
    by_cases hz : gi s 8 f = 0
    · rw [if_pos hz, if_pos (show (-1 : Int32) < 0 by decide), ofNat_succ]
      rw [show cntF (cvB s p) (f + 1) = cntF (cvB s p) f by simp [cntF, cvB, hz]] at z
      exact z
    · rw [if_neg hz]
      by_cases h7 : gi s 7 f < 0
      · rw [if_pos h7, ofNat_succ]
        rw [show cntF (cvB s p) (f + 1) = cntF (cvB s p) f by simp [cntF, cvB, hz, h7]] at z
        exact z
      · rw [if_neg h7]
        by_cases hp : p < gi s 7 f
        · rw [if_pos hp, ofNat_succ]
          rw [show cntF (cvB s p) (f + 1) = cntF (cvB s p) f by simp [cntF, cvB, hz, h7, hp]] at z
          exact z
        · rw [if_neg hp, ofNat_succ, ofNat_succ]
          rw [show cntF (cvB s p) (f + 1) = cntF (cvB s p) f + 1 by simp [cntF, cvB, hz, h7, hp]] at z
          exact z
theorem cnt0 {s : Sg} {p : Int32} (hp : p.toInt = -1) (n : Nat) : cntF (cvB s p) n = 0 := by
  have e0 : (0 : Int32).toInt = 0 := rfl
  induction n with
  | zero => rfl
  | succ n ih =>
    have : cvB s p n = false := by
      unfold cvB
      by_cases h7 : gi s 7 n < 0
      · simp [h7]
      · have h7' := h7
        rw [ti_lt] at h7'
        have hq : p < gi s 7 n := by rw [ti_lt]; omega
        simp [hq]
    unfold cntF
    rw [ih, this]
    rfl
theorem c241 {s : Sg} (H : LOk s) {n : Nat} (hn : n ≤ 390) (k : Nat) : ∀ (fuel : Nat) (p : Int32), p.toInt + k = n + 1 → -1 ≤ p.toInt → k < fuel → q_check_241 fuel (Int32.ofNat (2 * scN s)) (Int32.ofNat n) p s = some (1, s) := by
  have en := ti_ofNat (n := n) (by omega)
  have e0 : (0 : Int32).toInt = 0 := rfl
  have hb : scN s ≤ 40 := by obtain ⟨a, b, c, d, -⟩ := H; unfold scN; omega
  induction k with
  | zero =>
    intro fuel p h1 h2 h3
    obtain ⟨fu, rfl⟩ : ∃ f, fuel = f + 1 := ⟨fuel - 1, by omega⟩
    rw [q_check_241, if_pos (by rw [ti_lt]; omega)]
  | succ k ih =>
    intro fuel p h1 h2 h3
    obtain ⟨fu, rfl⟩ : ∃ f, fuel = f + 1 := ⟨fuel - 1, by omega⟩
    have e1 : (p + 1).toInt = p.toInt + 1 := ti_add1 (by omega)
    have z := c254 H (N := Int32.ofNat n) (p := p) (K := q_check_241 fu) (2 * scN s) 0 400 (by omega) (by omega)
    rw [show Int32.ofNat (cntF (cvB s p) 0) = 0 from rfl, show Int32.ofNat 0 = 0 from rfl] at z
    have v := p_cov H p
    rw [q_check_241, if_neg (by rw [ti_lt]; omega), z]
    by_cases c : p < 0
    · rw [if_pos c] at v
      rw [ti_lt] at c
      rw [v, Option.bind_some, cnt0 (by omega), if_pos (show (0 : Int32) = Int32.ofNat 0 from rfl)]
      exact ih fu (p + 1) (by omega) (by omega) (by omega)
    · rw [if_neg c] at v
      rw [v, Option.bind_some, if_pos rfl]
      exact ih fu (p + 1) (by omega) (by omega) (by omega)
theorem chk {σ : Sg} {n : Nat} (hn : n ≤ 390) (w : WI σ) (S : Sv σ n) {seed mask W cnt F : Int32} (h15 : gi σ 0 15 = seed) (h16 : gi σ 0 16 = mask) (h11 : gi σ 0 11 = W) (hc : cnt = Int32.ofNat n) (hF : F = 2 * sc σ) : ∃ s', OnlyL σ s' ∧ q_check seed mask W cnt F σ = some (1, s') := by
  subst h15 h16 h11 hc
  have h32 := w.2.1
  have hF' : F = Int32.ofNat (2 * scN σ) := hF.trans (sc2 w.1)
  obtain ⟨s1, O1, q1⟩ := c35 (by omega) w S (F := F) n 0 400 σ (by omega) (by omega) (OnlyL.refl σ)
  obtain ⟨s2, O2, q2⟩ := c89 hn w S (2 * scN σ) 0 400 s1 (by omega) (by omega) O1
  have w2 := only_wi w O2
  have hs : scN s2 = scN σ := by unfold scN; rw [O2.1, O2.1]
  have q3 := c241 w2.1 hn (n + 2) 400 (-1) (by show (-1 : Int) + _ = _; omega) (by decide) (by omega)
  rw [hs] at q3
  have g1 : c_getPatternCount σ = some (Int32.ofNat n, σ) := by unfold c_getPatternCount; rw [S.1]
  have g2 : c_getFaultCount σ = some (F, σ) := by rw [p_gfc, ← hF]
  refine ⟨s2, O2, ?_⟩
  rw [show gS σ (gi σ 0 15) 0 = 0 from rfl, show lsteps 0 (gi σ 0 15) = gi σ 0 15 from rfl, show Int32.ofNat 0 = 0 from rfl] at q1
  rw [show Int32.ofNat 0 = 0 from rfl, ← hF'] at q2
  rw [← hF'] at q3
  unfold q_check
  rw [g1, Option.bind_some, if_pos rfl]
  simp only []
  rw [g2, Option.bind_some, if_pos rfl]
  simp only []
  rw [q1, q2, q3]
/-! the law's script -/
def cellV (sn : Nat) (sf : Nat → Int32) (k : Int32) : Int32 := if k < sn.toInt32 then sf (nx k) else 0
theorem p_cell {sn : Nat} (hsn : sn ≤ 260) {sf : Nat → Int32} {k : Int32} (h : 0 ≤ k.toInt) (σ : Sg) : q_cell sn sf k σ = some (cellV sn sf k, σ) := by
  have esn : (sn.toInt32 : Int32).toInt = (sn : Int) := len_toInt (by omega)
  unfold q_cell cellV
  by_cases a : k < sn.toInt32
  · have a' := a
    rw [ti_lt, esn] at a'
    rw [if_pos a, if_pos a, if_pos (inbT h a')]
  · rw [if_neg a, if_neg a]
theorem p_pos (x : Int32) (σ : Sg) : q_pos x σ = some (x &&& 2147483647, σ) := rfl
theorem rem_b {x y : Int32} (h : 0 < y.toInt) : 0 ≤ ((x &&& 2147483647) % y).toInt ∧ ((x &&& 2147483647) % y).toInt < y.toInt := by
  have a := c_and x 2147483647 (by decide)
  rw [(c_irem (x &&& 2147483647) y y.toInt rfl).1 a.1]
  exact ⟨Int.emod_nonneg _ (by omega), Int.emod_lt_of_pos _ h⟩
/-- the turns of the operations -/
theorem l254 {sn : Nat} (hsn : sn ≤ 260) {sf : Nat → Int32} {W full F ops : Int32} (hops : ops.toInt ≤ 6) (k : Nat) : ∀ (fuel : Nat) (x5 seed mask o : Int32) (n : Nat) (σ : Sg), o.toInt + k = ops.toInt → 0 ≤ o.toInt → k < fuel → 0 ≤ x5.toInt → x5.toInt ≤ 1000 + 2 * o.toInt → WI σ → Sv σ n → (n : Int) ≤ 64 * o.toInt → gi σ 0 14 ≠ 0 → gi σ 0 15 = seed → gi σ 0 16 = mask → gi σ 0 11 = W → gi σ 0 12 = full → F = 2 * sc σ →
    ∃ σ', q_law_254 sn sf fuel W x5 full seed mask (Int32.ofNat n) F ops o σ = some (1, σ') := by
  have e0 : (0 : Int32).toInt = 0 := rfl
  have e1 : (1 : Int32).toInt = 1 := rfl
  have e2 : (2 : Int32).toInt = 2 := rfl
  have e64 : (64 : Int32).toInt = 64 := rfl
  induction k with
  | zero =>
    intro fuel x5 seed mask o n σ h1 h2 h3
    intros
    obtain ⟨fu, rfl⟩ : ∃ f, fuel = f + 1 := ⟨fuel - 1, by omega⟩
    rw [q_law_254, if_neg (by rw [ti_lt]; omega)]
    exact ⟨σ, rfl⟩
  | succ k ih =>
    intro fuel x5 seed mask o n σ h1 h2 h3 h4 h5 w S hn h14 h15 h16 h11 h12 hF
    obtain ⟨fu, rfl⟩ : ∃ f, fuel = f + 1 := ⟨fuel - 1, by omega⟩
    have o1 : (o + 1).toInt = o.toInt + 1 := ti_add1 (by omega)
    have x51 : (x5 + 1).toInt = x5.toInt + 1 := ti_add1 (by omega)
    have x52 : (x5 + 2).toInt = x5.toInt + 2 := by rw [ti_add (by omega) (by omega), e2]
    -- behind an operation
    have next : ∀ (seed mask cnt : Int32) (n : Nat) (σ : Sg), cnt = Int32.ofNat n → WI σ → Sv σ n → (n : Int) ≤ 64 * (o.toInt + 1) → gi σ 0 14 ≠ 0 → gi σ 0 15 = seed → gi σ 0 16 = mask → gi σ 0 11 = W → gi σ 0 12 = full → F = 2 * sc σ → ∃ σ', q_law_397 sn sf (q_law_254 sn sf fu) W (x5 + 2) full seed mask cnt F ops o σ = some (1, σ') := by
      intro seed mask cnt n σ hc w S hn h14 h15 h16 h11 h12 hF
      obtain ⟨s, O, q⟩ := chk (by omega) w S h15 h16 h11 hc hF
      unfold q_law_397
      rw [q, Option.bind_some, if_neg (show ¬ (1 : Int32) = 0 by decide)]
      subst hc
      exact ih fu (x5 + 2) seed mask (o + 1) n s (by omega) (by omega) (by omega) (by omega) (by omega) (only_wi w O) (S.only w O) (by omega) (by rw [O.1]; exact h14) (by rw [O.1]; exact h15) (by rw [O.1]; exact h16) (by rw [O.1]; exact h11) (by rw [O.1]; exact h12) (by unfold sc; rw [O.1, O.1]; exact hF)
    have en := ti_ofNat (n := n) (by omega)
    have hpc : 0 < gi σ 0 17 ↔ ¬ Int32.ofNat n = 0 := by
      rw [S.1, ti_lt, ti_eq]; omega
    rw [q_law_254, if_pos (by rw [ti_lt]; omega), p_cell hsn h4, Option.bind_some]
    simp only []
    rw [p_pos, Option.bind_some, if_neg (show ¬ (5 : Int32) = 0 by decide)]
    simp only []
    rw [p_cell hsn (by omega), Option.bind_some]
    simp only []
    generalize (cellV sn sf x5 &&& 2147483647) % 5 = op
    generalize cellV sn sf (x5 + 1) = v
    by_cases c1 : 1 < op
    · rw [if_pos c1]
      by_cases c2 : op = 2
      · rw [if_pos c2]
        obtain ⟨s, q, C1, C2, C3⟩ := p_restart σ
        rw [q, Option.bind_some]
        have z : ∀ j, j ≠ 17 → j ≠ 18 → j ≠ 19 → gi s 0 j = gi σ 0 j := fun j a b c => by
          rw [C1 0 j (by decide) (by decide) (by decide), gi_si, if_neg (fun e => c e.2), gi_si, if_neg (fun e => b e.2), gi_si, if_neg (fun e => a e.2)]
        have ws : WI s := w.same fun k j hk hj => by
          by_cases k0 : k = 0
          · subst k0
            have := hj rfl
            exact z j (by omega) (by omega) (by omega)
          · rw [C1 k j (by omega) (by omega) (by omega), gi_si, if_neg (fun e => k0 e.1), gi_si, if_neg (fun e => k0 e.1), gi_si, if_neg (fun e => k0 e.1)]
        refine next seed mask 0 0 s rfl ws ?_ (by omega) (by rw [z 14 (by decide) (by decide) (by decide)]; exact h14) (by rw [z 15 (by decide) (by decide) (by decide)]; exact h15) (by rw [z 16 (by decide) (by decide) (by decide)]; exact h16) (by rw [z 11 (by decide) (by decide) (by decide)]; exact h11) (by rw [z 12 (by decide) (by decide) (by decide)]; exact h12) (by unfold sc; rw [z 9 (by decide) (by decide) (by decide), z 13 (by decide) (by decide) (by decide)]; exact hF)
        have h32 := ws.2.1
        refine ⟨?_, ?_, ?_, fun f hf => ?_⟩
        · rw [C1 0 17 (by decide) (by decide) (by decide)]; simp [gi_si]
        · rw [z 15 (by decide) (by decide) (by decide), C1 0 18 (by decide) (by decide) (by decide)]; simp [gi_si, lsteps]
        · rw [C1 0 19 (by decide) (by decide) (by decide)]; simp [gi_si, gS]
        · obtain ⟨d6, d7, d8⟩ := C3 f (by omega)
          rw [d6, d7, d8]
          exact ⟨rfl, rfl, by rw [show fD s (gi s 0 15) f 0 = -1 from rfl, if_pos (by decide)]⟩
      · rw [if_neg c2]
        by_cases c3 : op = 3
        · rw [if_pos c3, p_seed, Option.bind_some]
          by_cases z : Int32.ofNat n = 0
          · have np : ¬ 0 < gi σ 0 17 := fun q => hpc.mp q z
            rw [if_neg np, if_pos z]
            have hn0 : n = 0 := by rw [ti_eq] at z; omega
            subst hn0
            by_cases d : v &&& 65535 = 0
            · rw [if_pos d, if_pos d]
              exact next seed mask _ 0 σ rfl w S (by omega) h14 h15 h16 h11 h12 hF
            · rw [if_neg d, if_neg d]
              have z2 : ∀ k j, ¬ (k = 0 ∧ (j = 15 ∨ j = 18)) → gi (si (si σ 0 15 (v &&& 65535)) 0 18 (v &&& 65535)) k j = gi σ k j := fun k j h => by
                rw [gi_si, if_neg (fun e => h ⟨e.1, Or.inr e.2⟩), gi_si, if_neg (fun e => h ⟨e.1, Or.inl e.2⟩)]
              refine next _ mask _ 0 _ rfl (w.same fun k j hk hj => z2 k j (fun e => by have := hj e.1; omega)) ?_ (by omega) (by rw [z2 0 14 (by decide)]; exact h14) (by simp [gi_si]) (by rw [z2 0 16 (by decide)]; exact h16) (by rw [z2 0 11 (by decide)]; exact h11) (by rw [z2 0 12 (by decide)]; exact h12) (by unfold sc; rw [z2 0 9 (by decide), z2 0 13 (by decide)]; exact hF)
              obtain ⟨s1, s2, s3, s4⟩ := S
              refine ⟨by rw [z2 0 17 (by decide)]; exact s1, by simp [gi_si, lsteps], by rw [z2 0 19 (by decide)]; exact s3, fun f hf => ?_⟩
              have hs : scN (si (si σ 0 15 (v &&& 65535)) 0 18 (v &&& 65535)) = scN σ := by unfold scN; rw [z2 0 9 (by decide), z2 0 13 (by decide)]
              rw [hs] at hf
              rw [z2 6 f (by simp), z2 7 f (by simp), z2 8 f (by simp)]
              exact s4 f hf
          · have np : 0 < gi σ 0 17 := hpc.mpr z
            rw [if_pos np, if_neg z]
            exact next seed mask _ n σ rfl w S (by omega) h14 h15 h16 h11 h12 hF
        · rw [if_neg c3, p_mask, Option.bind_some]
          by_cases z : Int32.ofNat n = 0
          · have np : ¬ 0 < gi σ 0 17 := fun q => hpc.mp q z
            rw [if_neg np, if_pos z]
            have hn0 : n = 0 := by rw [ti_eq] at z; omega
            subst hn0
            have z2 : ∀ k j, ¬ (k = 0 ∧ j = 16) → gi (si σ 0 16 (v &&& gi σ 0 12)) k j = gi σ k j := fun k j h => by rw [gi_si, if_neg h]
            refine next seed _ _ 0 _ rfl (w.same fun k j hk hj => z2 k j (fun e => by have := hj e.1; omega)) ?_ (by omega) (by rw [z2 0 14 (by decide)]; exact h14) (by rw [z2 0 15 (by decide)]; exact h15) (by rw [gi_si, if_pos ⟨rfl, rfl⟩, h12]) (by rw [z2 0 11 (by decide)]; exact h11) (by rw [z2 0 12 (by decide)]; exact h12) (by unfold sc; rw [z2 0 9 (by decide), z2 0 13 (by decide)]; exact hF)
            obtain ⟨s1, s2, s3, s4⟩ := S
            refine ⟨by rw [z2 0 17 (by decide)]; exact s1, by rw [z2 0 18 (by decide), z2 0 15 (by decide)]; exact s2, by rw [z2 0 19 (by decide)]; exact s3, fun f hf => ?_⟩
            have hs : scN (si σ 0 16 (v &&& gi σ 0 12)) = scN σ := by unfold scN; rw [z2 0 9 (by decide), z2 0 13 (by decide)]
            rw [hs] at hf
            rw [z2 6 f (by simp), z2 7 f (by simp), z2 8 f (by simp)]
            exact s4 f hf
          · have np : 0 < gi σ 0 17 := hpc.mpr z
            rw [if_pos np, if_neg z]
            exact next seed mask _ n σ rfl w S (by omega) h14 h15 h16 h11 h12 hF
    · rw [if_neg c1, p_pos, Option.bind_some, if_neg (show ¬ (64 : Int32) = 0 by decide)]
      have hr := rem_b (x := v) (y := 64) (by decide)
      rw [e64] at hr
      simp only []
      generalize (v &&& 2147483647) % 64 = r at hr ⊢
      have hr1 : (r + 1).toInt = r.toInt + 1 := ti_add1 (by omega)
      have hnx : ((nx (r + 1) : Nat) : Int) = r.toInt + 1 := by unfold nx; omega
      obtain ⟨s, q, ws, K, Ss⟩ := Sv.run (nx (r + 1)) σ n (by omega) w S
      have rr : c_run (r + 1) σ = some (gi s 0 17, s) := by rw [run_v w (by omega) (by omega) h14, q, Option.bind_some]
      rw [rr, Option.bind_some]
      have z : ∀ j, j ≠ 17 → j ≠ 18 → j ≠ 19 → gi s 0 j = gi σ 0 j := fun j a b c => K 0 j (by decide) (by decide) (by decide) (fun _ => ⟨a, b, c⟩)
      refine next seed mask _ (n + nx (r + 1)) s ?_ ws Ss (by omega) (by rw [z 14 (by decide) (by decide) (by decide)]; exact h14) (by rw [z 15 (by decide) (by decide) (by decide)]; exact h15) (by rw [z 16 (by decide) (by decide) (by decide)]; exact h16) (by rw [z 11 (by decide) (by decide) (by decide)]; exact h11) (by rw [z 12 (by decide) (by decide) (by decide)]; exact h12) (by unfold sc; rw [z 9 (by decide) (by decide) (by decide), z 13 (by decide) (by decide) (by decide)]; exact hF)
      refine eq_ofNat ?_
      rw [ti_add (by omega) (by omega), en, hr1]
      omega
/-- while the net is made -/
def Bld (σ : Sg) (I W g : Int32) : Prop := WI σ ∧ gi σ 0 9 = I ∧ gi σ 0 10 = 32 ∧ gi σ 0 11 = W ∧ gi σ 0 12 = (1 : Int32) <<< (W &&& 31) - 1 ∧ gi σ 0 13 = g ∧ gi σ 0 15 = 44257 ∧ gi σ 0 16 = (1 : Int32) <<< (W &&& 31) - 1 ∧ gi σ 0 17 = 0 ∧ gi σ 0 18 = 44257 ∧ gi σ 0 19 = 0 ∧ Clr σ
theorem l155 {sn : Nat} (hsn : sn ≤ 260) {sf : Nat → Int32} {I W g O : Int32} (hO : O.toInt ≤ 8) (hO1 : 1 ≤ O.toInt) (k : Nat) : ∀ (fuel : Nat) (x5 j : Int32) (σ : Sg), j.toInt + k = O.toInt → 0 ≤ j.toInt → k < fuel → 0 ≤ x5.toInt → x5.toInt ≤ 900 + j.toInt → Bld σ I W g → (j.toInt = 0 → gi σ 0 14 = 0 ∧ ∀ t, gi σ 5 t = 0) → (j.toInt ≠ 0 → gi σ 0 14 ≠ 0) →
    ∃ σ', q_law_155 sn sf fuel W x5 (I + g) O j σ = some (1, σ') := by
  have e0 : (0 : Int32).toInt = 0 := rfl
  have e6 : (6 : Int32).toInt = 6 := rfl
  induction k with
  | zero =>
    intro fuel x5 j σ h1 h2 h3 h4 h5 B hz hnz
    obtain ⟨fu, rfl⟩ : ∃ f, fuel = f + 1 := ⟨fuel - 1, by omega⟩
    obtain ⟨w, b9, b10, b11, b12, b13, b15, b16, b17, b18, b19, C⟩ := B
    have hs : sc σ = I + g := by unfold sc; rw [b9, b13]
    have h32 := w.2.1
    have x51 : (x5 + 1).toInt = x5.toInt + 1 := ti_add1 (by omega)
    rw [q_law_155, if_neg (by rw [ti_lt]; omega), p_cell hsn h4, Option.bind_some]
    simp only []
    rw [p_pos, Option.bind_some, if_neg (show ¬ (6 : Int32) = 0 by decide)]
    simp only []
    have hr := rem_b (x := cellV sn sf x5) (y := 6) (by decide)
    rw [e6] at hr
    generalize (cellV sn sf x5 &&& 2147483647) % 6 = r at hr ⊢
    have hr1 : (r + 1).toInt = r.toInt + 1 := ti_add1 (by omega)
    have S : Sv σ 0 := by
      refine ⟨b17, by rw [b18, b15]; rfl, b19, fun f hf => ?_⟩
      obtain ⟨d6, d7, d8⟩ := C f (by omega)
      rw [d6, d7, d8]
      exact ⟨rfl, rfl, by rw [show fD σ (gi σ 0 15) f 0 = -1 from rfl, if_pos (by decide)]⟩
    obtain ⟨s, O1, q⟩ := chk (by decide) w S b15 b16 b11 (show (0 : Int32) = Int32.ofNat 0 from rfl) (show 2 * (I + g) = 2 * sc σ by rw [hs])
    rw [q, Option.bind_some, if_neg (show ¬ (1 : Int32) = 0 by decide)]
    exact l254 hsn (by omega) (nx (r + 1)) 400 (x5 + 1) 44257 _ 0 0 s (by unfold nx; omega) (by decide) (by unfold nx; omega) (by omega) (by omega) (only_wi w O1) (S.only w O1) (by omega) (by rw [O1.1]; exact hnz (by omega)) (by rw [O1.1]; exact b15) (by rw [O1.1]; exact b16) (by rw [O1.1]; exact b11) (by rw [O1.1]; exact b12) (by unfold sc; rw [O1.1, O1.1, b9, b13])
  | succ k ih =>
    intro fuel x5 j σ h1 h2 h3 h4 h5 B hz hnz
    obtain ⟨fu, rfl⟩ : ∃ f, fuel = f + 1 := ⟨fuel - 1, by omega⟩
    obtain ⟨w, b9, b10, b11, b12, b13, b15, b16, b17, b18, b19, C⟩ := B
    have hs : sc σ = I + g := by unfold sc; rw [b9, b13]
    have hst := sc_ti w.1
    have hp : 0 < (sc σ).toInt := by rw [hst]; have := w.1.1; have := w.1.2.2.1; omega
    have j1 : (j + 1).toInt = j.toInt + 1 := ti_add1 (by omega)
    have x51 : (x5 + 1).toInt = x5.toInt + 1 := ti_add1 (by omega)
    have hne : ¬ I + g = 0 := by rw [← hs, ti_eq]; omega
    rw [q_law_155, if_pos (by rw [ti_lt]; omega), p_cell hsn h4, Option.bind_some]
    simp only []
    rw [p_pos, Option.bind_some, if_neg hne]
    simp only []
    have hr := rem_b (x := cellV sn sf x5) (y := I + g) (by rw [← hs]; exact hp)
    generalize (cellV sn sf x5 &&& 2147483647) % (I + g) = r at hr ⊢
    rw [p_mark w.1, Option.bind_some]
    cases hok : okM σ r with
    | false =>
      rw [if_neg (by decide)]
      have j0 : j.toInt ≠ 0 := fun q => by
        obtain ⟨z14, z5⟩ := hz q
        have : okM σ r = true := okM_iff.mpr ⟨by rw [b17]; decide, by rw [z14]; decide, by rw [ti_lt]; omega, by rw [hs, ti_lt]; omega, z5 _⟩
        rw [hok] at this; cases this
      exact ih fu (x5 + 1) (j + 1) σ (by omega) (by omega) (by omega) (by omega) (by omega) ⟨w, b9, b10, b11, b12, b13, b15, b16, b17, b18, b19, C⟩ (fun q => by omega) (fun _ => hnz j0)
    | true =>
      rw [if_pos rfl]
      have z : ∀ k j, k ≠ 5 → k ≠ 4 → ¬ (k = 0 ∧ j = 14) → gi (si (si (si σ 5 (nx r) 1) 4 (nx (gi σ 0 14)) r) 0 14 (gi σ 0 14 + 1)) k j = gi σ k j := fun k j h5 h4 h0 => by rw [gi_si, if_neg h0, gi_si, if_neg (fun q => h4 q.1), gi_si, if_neg (fun q => h5 q.1)]
      have h14 : (gi σ 0 14 + 1).toInt = (gi σ 0 14).toInt + 1 := ti_add1 (by have := w.1.2.2.2.2.2.1; omega)
      refine ih fu (x5 + 1) (j + 1) _ (by omega) (by omega) (by omega) (by omega) (by omega) ⟨markN w hok, ?_, ?_, ?_, ?_, ?_, ?_, ?_, ?_, ?_, ?_, fun t ht => ?_⟩ (fun q => by omega) (fun _ => ?_)
      · rw [z 0 9 (by decide) (by decide) (by decide)]; exact b9
      · rw [z 0 10 (by decide) (by decide) (by decide)]; exact b10
      · rw [z 0 11 (by decide) (by decide) (by decide)]; exact b11
      · rw [z 0 12 (by decide) (by decide) (by decide)]; exact b12
      · rw [z 0 13 (by decide) (by decide) (by decide)]; exact b13
      · rw [z 0 15 (by decide) (by decide) (by decide)]; exact b15
      · rw [z 0 16 (by decide) (by decide) (by decide)]; exact b16
      · rw [z 0 17 (by decide) (by decide) (by decide)]; exact b17
      · rw [z 0 18 (by decide) (by decide) (by decide)]; exact b18
      · rw [z 0 19 (by decide) (by decide) (by decide)]; exact b19
      · rw [z 6 t (by decide) (by decide) (by simp), z 7 t (by decide) (by decide) (by simp), z 8 t (by decide) (by decide) (by simp)]
        exact C t ht
      · rw [gi_si, if_pos ⟨rfl, rfl⟩]
        intro q
        rw [ti_eq, h14] at q
        have := w.1.2.2.2.2.1
        omega
theorem l61 {sn : Nat} (hsn : sn ≤ 260) {sf : Nat → Int32} {I W G : Int32} (hG : G.toInt ≤ 12) (hI1 : 1 ≤ I.toInt) (hI : I.toInt ≤ 8) (k : Nat) : ∀ (fuel : Nat) (x5 g : Int32) (σ : Sg), g.toInt + k = G.toInt → 0 ≤ g.toInt → k < fuel → 0 ≤ x5.toInt → x5.toInt ≤ 3 + 3 * g.toInt → Bld σ I W g → gi σ 0 14 = 0 → (∀ t, gi σ 5 t = 0) →
    ∃ σ', q_law_61 sn sf fuel I W G x5 g σ = some (1, σ') := by
  have e0 : (0 : Int32).toInt = 0 := rfl
  have e1 : (1 : Int32).toInt = 1 := rfl
  have e2 : (2 : Int32).toInt = 2 := rfl
  have e3 : (3 : Int32).toInt = 3 := rfl
  have e7 : (7 : Int32).toInt = 7 := rfl
  have e8 : (8 : Int32).toInt = 8 := rfl
  induction k with
  | zero =>
    intro fuel x5 g σ h1 h2 h3 h4 h5 B h14 hm
    obtain ⟨fu, rfl⟩ : ∃ f, fuel = f + 1 := ⟨fuel - 1, by omega⟩
    have x51 : (x5 + 1).toInt = x5.toInt + 1 := ti_add1 (by omega)
    have hgG : g = G := by rw [ti_eq]; omega
    subst hgG
    rw [q_law_61, if_neg (by rw [ti_lt]; omega), p_cell hsn h4, Option.bind_some]
    simp only []
    rw [p_pos, Option.bind_some, if_neg (show ¬ (8 : Int32) = 0 by decide)]
    simp only []
    have hr := rem_b (x := cellV sn sf x5) (y := 8) (by decide)
    rw [e8] at hr
    generalize (cellV sn sf x5 &&& 2147483647) % 8 = r at hr ⊢
    have hr1 : (r + 1).toInt = r.toInt + 1 := ti_add1 (by omega)
    exact l155 hsn (by omega) (by omega) (nx (r + 1)) 400 (x5 + 1) 0 σ (by unfold nx; omega) (by decide) (by unfold nx; omega) (by omega) (by omega) B (fun _ => ⟨h14, hm⟩) (fun q => absurd rfl q)
  | succ k ih =>
    intro fuel x5 g σ h1 h2 h3 h4 h5 B h14 hm
    obtain ⟨fu, rfl⟩ : ∃ f, fuel = f + 1 := ⟨fuel - 1, by omega⟩
    obtain ⟨w, b9, b10, b11, b12, b13, b15, b16, b17, b18, b19, C⟩ := B
    have hs : sc σ = I + g := by unfold sc; rw [b9, b13]
    have hIg : (I + g).toInt = I.toInt + g.toInt := ti_add (by omega) (by omega)
    have g1 : (g + 1).toInt = g.toInt + 1 := ti_add1 (by omega)
    have x51 : (x5 + 1).toInt = x5.toInt + 1 := ti_add1 (by omega)
    have x52 : (x5 + 2).toInt = x5.toInt + 2 := by rw [ti_add (by omega) (by omega), e2]
    have x53 : (x5 + 3).toInt = x5.toInt + 3 := by rw [ti_add (by omega) (by omega), e3]
    have hne : ¬ I + g = 0 := by rw [ti_eq]; omega
    rw [q_law_61, if_pos (by rw [ti_lt]; omega), p_cell hsn h4, Option.bind_some]
    simp only []
    rw [p_pos, Option.bind_some, if_neg (show ¬ (8 : Int32) = 0 by decide)]
    simp only []
    rw [p_cell hsn (by omega), Option.bind_some]
    simp only []
    rw [p_pos, Option.bind_some, if_neg hne]
    simp only []
    rw [p_cell hsn (by omega), Option.bind_some]
    simp only []
    rw [p_pos, Option.bind_some, if_neg hne]
    simp only []
    have r1 := rem_b (x := cellV sn sf x5) (y := 8) (by decide)
    rw [e8] at r1
    have r2 := rem_b (x := cellV sn sf (x5 + 1)) (y := I + g) (by omega)
    have r3 := rem_b (x := cellV sn sf (x5 + 2)) (y := I + g) (by omega)
    generalize (cellV sn sf x5 &&& 2147483647) % 8 = A at r1 ⊢
    generalize (cellV sn sf (x5 + 1) &&& 2147483647) % (I + g) = D at r2 ⊢
    generalize (cellV sn sf (x5 + 2) &&& 2147483647) % (I + g) = E at r3 ⊢
    have hst := scN_ti w.1
    rw [b9, b13] at hst
    have hok : okA σ A D E = true := okA_iff.mpr ⟨by rw [b17]; decide, by rw [b13, b10, ti_lt]; show g.toInt < 32; omega, by rw [ti_lt]; omega, by rw [ti_lt]; omega, by rw [ti_lt]; omega, by rw [hs, ti_lt]; omega, fun _ => ⟨by rw [ti_lt]; omega, by rw [hs, ti_lt]; omega⟩⟩
    rcases p_addN w.1 (by rw [b10]; decide) A D E with ⟨hf, -⟩ | ⟨-, s, q, A⟩
    · rw [hok] at hf; cases hf
    · rw [q, Option.bind_some]
      obtain ⟨⟨K1, K2, K3, -⟩, -, -, -, AC⟩ := id A
      exact ih fu (x5 + 3) (g + 1) s (by omega) (by omega) (by omega) (by omega) (by omega) ⟨A.wi w (by omega), by rw [K2 9 (by decide)]; exact b9, by rw [K2 10 (by decide)]; exact b10, by rw [K2 11 (by decide)]; exact b11, by rw [K2 12 (by decide)]; exact b12, by rw [K1, b13], by rw [K2 15 (by decide)]; exact b15, by rw [K2 16 (by decide)]; exact b16, by rw [K2 17 (by decide)]; exact b17, by rw [K2 18 (by decide)]; exact b18, by rw [K2 19 (by decide)]; exact b19, AC C⟩ (by rw [K2 14 (by decide)]; exact h14) (fun t => by rw [(K3 t).2]; exact hm t)
theorem cl_in {x lo hi : Int32} (h1 : lo.toInt ≤ x.toInt) (h2 : x.toInt ≤ hi.toInt) : cl x lo hi = x := by
  unfold cl
  rw [if_neg (by rw [ti_lt]; omega), if_neg (by rw [ti_lt]; omega)]
theorem law_true (sn : Nat) (hsn : sn ≤ 260) (sf : Nat → Int32) : ∃ σ, q_law sn sf = some (1, σ) := by
  have e0 : (0 : Int32).toInt = 0 := rfl
  have e1 : (1 : Int32).toInt = 1 := rfl
  have e8 : (8 : Int32).toInt = 8 := rfl
  have e16 : (16 : Int32).toInt = 16 := rfl
  have e12 : (12 : Int32).toInt = 12 := rfl
  unfold q_law
  rw [p_cell hsn (by decide), Option.bind_some]
  simp only []
  rw [p_pos, Option.bind_some, if_neg (show ¬ (8 : Int32) = 0 by decide)]
  simp only []
  rw [p_cell hsn (by decide), Option.bind_some]
  simp only []
  rw [p_pos, Option.bind_some, if_neg (show ¬ (16 : Int32) = 0 by decide)]
  simp only []
  rw [p_cell hsn (by decide), Option.bind_some]
  simp only []
  rw [p_pos, Option.bind_some, if_neg (show ¬ (12 : Int32) = 0 by decide)]
  simp only []
  have r1 := rem_b (x := cellV sn sf 0) (y := 8) (by decide)
  have r2 := rem_b (x := cellV sn sf 1) (y := 16) (by decide)
  have r3 := rem_b (x := cellV sn sf 2) (y := 12) (by decide)
  rw [e8] at r1
  rw [e16] at r2
  rw [e12] at r3
  generalize (cellV sn sf 0 &&& 2147483647) % 8 = A at r1 ⊢
  generalize (cellV sn sf 1 &&& 2147483647) % 16 = D at r2 ⊢
  generalize (cellV sn sf 2 &&& 2147483647) % 12 = E at r3 ⊢
  have a1 : (A + 1).toInt = A.toInt + 1 := ti_add1 (by omega)
  have d1 : (D + 1).toInt = D.toInt + 1 := ti_add1 (by omega)
  have g1 : (E + 1).toInt = E.toInt + 1 := ti_add1 (by omega)
  obtain ⟨σ, q, f9, f10, f11, f12, f13, f14, f15, f16, f17, f18, f19, fz, -, fd⟩ := p_init (A + 1) 32 (D + 1)
  rw [cl_in (by omega) (by omega)] at f9
  rw [cl_in (by decide) (by decide)] at f10
  rw [cl_in (by omega) (by omega)] at f11 f12 f16
  rw [q, Option.bind_some]
  have w : WI σ := by
    refine ⟨?_, ?_, fun k hk => ?_, fun k hk => ?_⟩
    · unfold LOk
      rw [f9, f13, f14, f11]
      exact ⟨by omega, by omega, by omega, by omega, by omega, by omega, by omega, by omega⟩
    · unfold scN; rw [f9, f13]; omega
    · rw [f13] at hk; omega
    · rw [f14] at hk; omega
  exact l61 hsn (by omega) (by omega) (by omega) (nx (E + 1)) 400 3 0 σ (by unfold nx; omega) (by decide) (by unfold nx; omega) (by decide) (by decide) ⟨w, f9, f10, f11, f12, f13, f15, f16, f17, f18, f19, fd⟩ f14 (fun t => fz 5 t (by decide) (by decide))
set_option maxRecDepth 65536 in
set_option maxHeartbeats 40000000 in
theorem comes_1 {Post : Tables → Env → Array Value → State → Outcome → State → Prop} (hpost : ∀ tb e args s v u, (limb_1_1.after args s (.returned v) u = true ∧ limb_1_2.after args s (.returned v) u = true ∧ True) → FrameEnd s (.returned v) u (Jvm.fieldLocs frame_1_writes args s ++ Jvm.arrayLocs frame_1_arrays args s ++ Jvm.staticLocs frame_1_statics s) 32 960 → Post tb e args s (.returned v) u) :
    ArmFor flags0 classFile x code maxLocals ret World_1 tables_1 room_1 Calls_1 rest_1 Pre_1 Post := by
  intro l hfl _ _ p e ha hc hk s m args below hf hA hF happ hP
  obtain ⟨hcalls, hrest, hpre⟩ := hP
  obtain ⟨-, -, -, hnamed, -, -, -, hat⟩ := (Spec.applies_iff hf).mp happ
  obtain ⟨hg, hn⟩ := and_e (Cond.before_iff.mp (show (Jvm.Cond.and given_1 narrow_1).before args s = true from hpre))
  obtain ⟨g0, g1⟩ := and_e hg
  obtain ⟨w0, rfl⟩ : ∃ w0 : Value, args = #[w0] := by
    have hs : args.size = 1 := by simpa [Cond.value, given_1] using g0
    obtain ⟨L⟩ := args
    match L, hs with
    | [w0], _ => exact ⟨w0, rfl⟩
  have hw : WH _ s := fun d (hd : d ∈ tables_1) => atoms_spec (ws := Jvm.Cond.code x code maxLocals ret :: tables_1) hat d (List.mem_cons_of_mem _ hd)
  have hfit : Fit s := fun {y c} hc i hi => by
    obtain ⟨ha, rfl⟩ := Array.getElem?_eq_some_iff.mp hc
    have q := List.all_eq_true.mp ((Array.all_eq_true_iff_forall_mem.mp hF) _ (Array.getElem_mem ha)) i (List.mem_range.mpr hi)
    simpa [Array.getElem?_eq_getElem hi] using q
  obtain ⟨n1, n2⟩ := and_e hn
  obtain ⟨ar, e0⟩ := arr_v n1
  obtain rfl : w0 = (.ref ar) := Option.some.inj e0
  obtain ⟨cl, Ar⟩ := Arr.start e0 n1
  have hlen : cl.slots.size ≤ 260 := by
    obtain ⟨z, z', y1, y2, y3, y4⟩ := cmp_v (Or.inr (Or.inr n2))
    have y5 : z' = .int 260 := (Option.some.inj y2).symm
    subst y5
    obtain ⟨z, rfl⟩ := y4
    have y6 := gotT (show (Cond.le (Jvm.Term.length (Jvm.Term.arg (0 : Nat))) (Jvm.Term.int (260 : Int32))).value _ s none s [] = some (decide (z ≤ (260 : Int32))) by simp [Cond.value, y1, y2]) n2
    obtain ⟨hs', hs2⟩ : cl.slots.size < 2 ^ 31 ∧ z = cl.slots.size.toInt32 := by
      have ha' := Ar.fin (Vm.Alike.refl _)
      simp only [Term.eval, e0, Option.bind_eq_bind, Option.bind_some, ha'] at y1
      have e0' : (#[Value.ref ar])[0]? = some (Value.ref ar) := rfl
      simp only [e0', ha', Option.bind_some] at y1
      split at y1
      · rename_i hlt; exact ⟨hlt, by cases y1; rfl⟩
      · cases y1
    rw [hs2, Int32.le_iff_toInt_le, len_toInt hs'] at y6
    have : (260 : Int32).toInt = 260 := rfl
    omega
  obtain ⟨sf, hsf⟩ : ∃ sf : Nat → Int32, ∀ i, i < cl.slots.size → cl.slots[i]? = some (.int (sf i)) := by
    refine ⟨fun i => match cl.slots[i]? with | some (.int z) => z | _ => 0, fun i hi => ?_⟩
    have hj : ¬ ((i.toInt32 : Int32) < 0 ∨ cl.slots.size ≤ i.toInt32.toNatClampNeg) := idx_in hi (by omega)
    have ei : i.toInt32.toNatClampNeg = i := by show i.toInt32.toInt.toNat = i; rw [len_toInt (by omega)]; rfl
    obtain ⟨v, v1, v2⟩ := elem_fit hfit Ar hj
    rw [ei] at v1
    obtain ⟨z, rfl⟩ := fit_I v2 (Or.inl rfl)
    simp only [v1]
  obtain ⟨w0, hw0⟩ : ∃ w0 : Nat → Option CD, w0 = fun k => if k = 99 then some (.inr (.int, cl.slots.size, some sf)) else none := ⟨_, rfl⟩
  have hsc : w0 99 = some (.inr (.int, cl.slots.size, some sf)) := by rw [hw0]; rfl
  have hw1 : ∀ k d, w0 k = some d → k = 99 ∧ d = .inr (.int, cl.slots.size, some sf) := fun k d q => by
    rw [hw0] at q
    simp only [] at q
    split at q
    · rename_i e; cases q; exact ⟨e, rfl⟩
    · cases q
  have hRd : Rd w0 9 := fun k d q => by obtain ⟨rfl, rfl⟩ := hw1 k d q; exact ⟨rfl, by decide⟩
  obtain ⟨σ', hlaw⟩ := law_true cl.slots.size hlen sf
  have hM := am_met (l := l) (ws := tables_1) (y := x) (bytes := code) (maxL := maxLocals) (ret := ret) (rm := room_1) (as := [.ref 99]) (A := fun _ => ar) (w := w0) (σ := zs) (h := s.heap) (n0 := s.heap.size) (F := FL) (C := "LogicBist") (fs := fsC) (Z := s) (t := q_law cl.slots.size sf) pnL hlaw ⟨fun k d q => (by obtain ⟨rfl, rfl⟩ := hw1 k d q; exact ⟨cl, Ar, rfl, hsf⟩), fun k k' d d' q q' _ => (by rw [(hw1 k d q).1, (hw1 k' d' q').1])⟩ (fun k d q q' => (by obtain ⟨rfl, rfl⟩ := hw1 k d q; cases q')) (fun p e s' m below meth c hc => ok_q_law hw hRd hsc (Nat.le_refl _) hc)
  obtain ⟨n, o, h1, h2, h3, _, L, rfl, ⟨hv, N⟩, hq⟩ := hM p e ha hc hk s m _ below hf ((Spec.applies_iff_loose hf).mp happ).1 ⟨rfl, State.Warmed39.refl s, rfl⟩ trivial
  cases hv
  refine ⟨n, _, h1, h2, h3, hpost _ _ _ _ _ _ ⟨Cond.after_iff.mpr rfl, Cond.after_iff.mpr (eq_i res_at (Term.int_eval (1)) rfl), trivial⟩ ⟨hq.1, hq.2.1, (hq.2.2.sift fun y hy => Or.inr (N y hy)).mono (by decide) (by decide)⟩⟩
theorem main_1_1 : Claimed_1_1 := comes_1 fun _ _ _ _ _ _ h hF => ⟨h.1, hF⟩
theorem main_1_2 : Claimed_1_2 := comes_1 fun _ _ _ _ _ _ h hF => ⟨h.2.1, hF⟩
end Jvm.Pilot.@@N@@
namespace Jvm.Pilot.@@N@@
open Jvm Jvm.ClassFile Sem Op Lib Jvm.Free Jvm.Stand Jvm.Pilot.@@N@@.Jvm.D
/-! MADE BY PROGRAM (witnessworld.py) out of the Statement's table words and the real class files: 13 classes; the members and pool entries that the words name. The judged class is class 1, her method 6. -/
namespace start1
open Jvm.ClassFile
def u (s : String) : CpInfo := .utf8 (stringToUtf16 s)
/-- a pool by its gaps: so many unusable entries, then the entry; so many at the end -/
def gap : Nat → List CpInfo → List CpInfo
  | 0, r => r
  | n + 1, r => .unusable :: gap n r
def poolList (es : List (Nat × CpInfo)) (last : Nat) : List CpInfo := es.foldr (fun e r => gap e.1 (e.2 :: r)) (gap last [])
def pool (es : List (Nat × CpInfo)) (last : Nat) : Array CpInfo := ⟨poolList es last⟩
def fileOf (pool : Array CpInfo) (this : Nat) (attrs : Array Attribute := #[]) (ms : Array MethodInfo := #[]) (fl : Nat := 33) (sup : Nat := 0) (ifs : Array Nat := #[]) (fds : Array FieldInfo := #[]) : ClassFile where
  minorVersion := 0
  majorVersion := 65
  constantPool := pool
  accessFlags := fl
  thisClass := this
  superClass := sup
  interfaces := ifs
  fields := fds
  methods := ms
  attributes := attrs
def plain (name : String) (sup : Option ClassId) : Class where
  name := name
  kind := .ordinary
  loader := none
  accessFlags := 33
  super := sup
  interfaces := #[]
  cf := none
  fields := #[]
  methods := #[]
  instanceTypes := #[]
  staticTypes := #[]
  resolved := #[]
  callSites := []
  init := .initialized
  statics := none
  mirror := none

def pool0 : Array CpInfo := pool [(5, u "<init>"), (0, u "()V"), (1, .class_ 10), (1, u "java/lang/Object")] 113

def k0c0 : Code := { maxStack := 0, maxLocals := 1, code := object_method_1_code, exceptionTable := #[], attributes := #[] }
def k0m0 : Method := { name := "<init>", desc := "()V", sig := { parameters := [], returnType := none }, accessFlags := 1, code := some k0c0 }
/-- java/lang/Object -/
def k0 : Class := { plain "java/lang/Object" none with
  accessFlags := 33
  interfaces := #[]
  cf := some (fileOf pool0 8 #[] #[{ accessFlags := 1, nameIndex := 5, descriptorIndex := 6, attributes := #[] }] 33 0 #[] #[])
  fields := #[]
  methods := #[k0m0]
  instanceTypes := #[]
  staticTypes := #[]
  resolved := Array.replicate 124 none
  statics := none }

def pool1 : Array CpInfo := pool [(2, .class_ 4), (1, u "java/lang/Object"), (0, u "<init>"), (0, u "()V"), (0, .integer 2147483647), (0, .integer 46080), (0, .methodref 10 11), (0, .class_ 12), (0, .nameAndType 13 14), (0, u "LogicBist"), (0, u "getPatternCount"), (0, u "()I"), (0, .methodref 10 16), (0, .nameAndType 17 14), (0, u "getFaultCount"), (0, .methodref 10 19), (0, .nameAndType 20 21), (0, u "simulate"), (0, u "(II)I"), (0, .methodref 23 24), (0, .class_ 25), (0, .nameAndType 26 27), (0, u "LogicBistOwnLaw"), (0, u "misr"), (0, u "(IIII)I"), (0, .methodref 23 29), (0, .nameAndType 30 31), (0, u "lfsr"), (0, u "(I)I"), (0, .methodref 10 33), (0, .nameAndType 34 14), (0, u "getGoldenSignature"), (0, .methodref 10 36), (0, .nameAndType 37 31), (0, u "getFirstDetect"), (0, .methodref 10 39), (0, .nameAndType 40 31), (0, u "getFaultSignature"), (0, .methodref 10 42), (0, .nameAndType 43 44), (0, u "isAliased"), (0, u "(I)Z"), (0, .methodref 10 46), (0, .nameAndType 47 31), (0, u "coverageAt"), (0, .methodref 23 49), (0, .nameAndType 50 51), (0, u "cell"), (0, u "([II)I"), (0, .methodref 23 53), (0, .nameAndType 54 31), (0, u "pos"), (0, .methodref 10 56), (0, .nameAndType 5 57), (0, u "(III)V"), (0, .methodref 10 59), (0, .nameAndType 60 61), (0, u "addGate"), (0, u "(III)I"), (0, .methodref 10 63), (0, .nameAndType 64 44), (0, u "markOutput"), (0, .integer 44257), (0, .methodref 23 67), (0, .nameAndType 68 69), (0, u "check"), (0, u "(LLogicBist;IIIII)Z"), (0, .methodref 10 71), (0, .nameAndType 72 31), (0, u "run"), (0, .methodref 10 74), (0, .nameAndType 75 6), (0, u "restart"), (0, .methodref 10 77), (0, .nameAndType 78 44), (0, u "setSeed"), (0, .integer 65535), (0, .methodref 10 81), (0, .nameAndType 82 44), (0, u "setMisrMask"), (3, u "law"), (0, u "([I)Z")] 4

def k1m0 : Method := { name := "<init>", desc := "()V", sig := { parameters := [], returnType := none }, accessFlags := 1, code := none }
def k1c1 : Code := { maxStack := 2, maxLocals := 2, code := method_2_code, exceptionTable := #[], attributes := #[] }
def k1m1 : Method := { name := "cell", desc := "([II)I", sig := { parameters := [(.array .int), .int], returnType := some .int }, accessFlags := 10, code := some k1c1 }
def k1c2 : Code := { maxStack := 2, maxLocals := 1, code := method_3_code, exceptionTable := #[], attributes := #[] }
def k1m2 : Method := { name := "pos", desc := "(I)I", sig := { parameters := [.int], returnType := some .int }, accessFlags := 10, code := some k1c2 }
def k1c3 : Code := { maxStack := 2, maxLocals := 2, code := method_4_code, exceptionTable := #[], attributes := #[] }
def k1m3 : Method := { name := "lfsr", desc := "(I)I", sig := { parameters := [.int], returnType := some .int }, accessFlags := 10, code := some k1c3 }
def k1c4 : Code := { maxStack := 4, maxLocals := 6, code := method_5_code, exceptionTable := #[], attributes := #[] }
def k1m4 : Method := { name := "misr", desc := "(IIII)I", sig := { parameters := [.int, .int, .int, .int], returnType := some .int }, accessFlags := 10, code := some k1c4 }
def k1c5 : Code := { maxStack := 4, maxLocals := 16, code := method_6_code, exceptionTable := #[], attributes := #[] }
def k1m5 : Method := { name := "check", desc := "(LLogicBist;IIIII)Z", sig := { parameters := [(.object "LogicBist"), .int, .int, .int, .int, .int], returnType := some .boolean }, accessFlags := 10, code := some k1c5 }
def k1c6 : Code := { maxStack := 6, maxLocals := 18, code := code, exceptionTable := #[], attributes := #[] }
def k1m6 : Method := { name := "law", desc := "([I)Z", sig := { parameters := [(.array .int)], returnType := some .boolean }, accessFlags := 9, code := some k1c6 }
/-- LogicBistOwnLaw -/
def k1 : Class := { plain "LogicBistOwnLaw" (some 0) with
  accessFlags := 49
  interfaces := #[]
  cf := some (fileOf pool1 23 #[] #[{ accessFlags := 1, nameIndex := 5, descriptorIndex := 6, attributes := #[] }, { accessFlags := 10, nameIndex := 50, descriptorIndex := 51, attributes := #[] }, { accessFlags := 10, nameIndex := 54, descriptorIndex := 31, attributes := #[] }, { accessFlags := 10, nameIndex := 30, descriptorIndex := 31, attributes := #[] }, { accessFlags := 10, nameIndex := 26, descriptorIndex := 27, attributes := #[] }, { accessFlags := 10, nameIndex := 68, descriptorIndex := 69, attributes := #[] }, { accessFlags := 9, nameIndex := 86, descriptorIndex := 87, attributes := #[] }] 49 2 #[] #[])
  fields := #[]
  methods := #[k1m0, k1m1, k1m2, k1m3, k1m4, k1m5, k1m6]
  instanceTypes := #[]
  staticTypes := #[]
  resolved := Array.replicate 92 none
  statics := none }

def pool2 : Array CpInfo := pool [(1, .methodref 2 3), (0, .class_ 4), (0, .nameAndType 5 6), (0, u "java/lang/Object"), (0, u "<init>"), (0, u "()V"), (0, .fieldref 8 9), (0, .class_ 10), (0, .nameAndType 11 12), (0, u "LogicBist"), (0, u "gateKind"), (0, u "[I"), (0, .fieldref 8 14), (0, .nameAndType 15 12), (0, u "gateA"), (0, .fieldref 8 17), (0, .nameAndType 18 12), (0, u "gateB"), (0, .fieldref 8 20), (0, .nameAndType 21 12), (0, u "outputSignal"), (0, .fieldref 8 23), (0, .nameAndType 24 25), (0, u "marked"), (0, u "[Z"), (0, .fieldref 8 27), (0, .nameAndType 28 12), (0, u "faultSig"), (0, .fieldref 8 30), (0, .nameAndType 31 12), (0, u "firstDetect"), (0, .fieldref 8 33), (0, .nameAndType 34 25), (0, u "detected"), (0, .fieldref 8 36), (0, .nameAndType 37 38), (0, u "lane"), (0, u "[J"), (0, .methodref 8 40), (0, .nameAndType 41 42), (0, u "clamp"), (0, u "(III)I"), (0, .fieldref 8 44), (0, .nameAndType 45 46), (0, u "inputCount"), (0, u "I"), (0, .fieldref 8 48), (0, .nameAndType 49 46), (0, u "gateCap"), (0, .fieldref 8 51), (0, .nameAndType 52 46), (0, u "width"), (0, .fieldref 8 54), (0, .nameAndType 55 46), (0, u "widthMask"), (0, .fieldref 8 57), (0, .nameAndType 58 46), (0, u "gateCount"), (0, .fieldref 8 60), (0, .nameAndType 61 46), (0, u "outputCount"), (0, .integer 44257), (0, .fieldref 8 64), (0, .nameAndType 65 46), (0, u "seed"), (0, .fieldref 8 67), (0, .nameAndType 68 46), (0, u "misrMask"), (0, .methodref 8 70), (0, .nameAndType 71 6), (0, u "clearSession"), (0, .fieldref 8 73), (0, .nameAndType 74 46), (0, u "patternCount"), (0, .methodref 8 76), (0, .nameAndType 77 78), (0, u "isGateKind"), (0, u "(I)Z"), (0, .methodref 8 80), (0, .nameAndType 81 78), (0, u "isSignal"), (0, .methodref 8 83), (0, .nameAndType 84 78), (0, u "isTwoOperand"), (0, .methodref 8 86), (0, .nameAndType 87 42), (0, u "appendGate"), (0, .integer 65535), (0, .fieldref 8 90), (0, .nameAndType 91 46), (0, u "lfsr"), (0, .methodref 8 93), (0, .nameAndType 94 6), (0, u "applyPattern"), (0, .methodref 8 96), (0, .nameAndType 97 98), (0, u "evaluateGroup"), (0, u "(II)V"), (0, .methodref 8 100), (0, .nameAndType 101 102), (0, u "outputWordAt"), (0, u "(I)I"), (0, .methodref 8 104), (0, .nameAndType 105 78), (0, u "isFault"), (0, .methodref 8 107), (0, .nameAndType 108 102), (0, u "groupOfFault"), (0, .methodref 8 110), (0, .nameAndType 111 102), (0, u "laneOfFault"), (0, .fieldref 8 113), (0, .nameAndType 114 46), (0, u "golden"), (0, .methodref 8 116), (0, .nameAndType 117 102), (0, u "firstDetectOf"), (0, .methodref 8 119), (0, .nameAndType 120 121), (0, u "faultCount"), (0, u "()I"), (0, .methodref 8 123), (0, .nameAndType 124 125), (0, u "resetFault"), (0, u "(I)V"), (0, .methodref 8 127), (0, .nameAndType 128 129), (0, u "misrStep"), (0, u "(II)I"), (0, .methodref 8 131), (0, .nameAndType 132 121), (0, u "groupCount"), (0, .methodref 8 134), (0, .nameAndType 135 136), (0, u "recordGroup"), (0, u "(III)V"), (0, .methodref 8 138), (0, .nameAndType 139 102), (0, u "lfsrStep"), (0, .methodref 8 141), (0, .nameAndType 142 102), (0, u "groupFirst"), (0, .methodref 8 144), (0, .nameAndType 145 102), (0, u "groupEnd"), (0, .methodref 8 147), (0, .nameAndType 148 121), (0, u "signalCount"), (0, .methodref 8 150), (0, .nameAndType 151 152), (0, u "inputLane"), (0, u "(II)J"), (0, .methodref 8 154), (0, .nameAndType 155 156), (0, u "gateLane"), (0, u "(I)J"), (0, .methodref 8 158), (0, .nameAndType 159 160), (0, u "forceLane"), (0, u "(JII)J"), (0, .long 18446744073709551615), (1, .methodref 8 164), (0, .nameAndType 165 156), (0, u "loadLane"), (0, .methodref 8 167), (0, .nameAndType 168 169), (0, u "combine"), (0, u "(IJJ)J"), (0, .integer 46080), (0, u "AND"), (2, u "OR"), (1, u "NAND"), (1, u "NOR"), (1, u "XOR"), (1, u "XNOR"), (1, u "NOT"), (1, u "BUF"), (1, u "LFSR_POLY"), (0, u "DEFAULT_SEED"), (0, u "MAX_OUTPUTS"), (1, u "MAX_RUN"), (1, u "NO_FAULT"), (1, u "REFUSED"), (0, u "UNDETECTED"), (0, u "BAD_FAULT"), (3, u "addGate"), (1, u "markOutput"), (0, u "setSeed"), (0, u "setMisrMask"), (0, u "run"), (0, u "restart"), (0, u "simulate"), (0, u "getPatternCount"), (1, u "getGoldenSignature"), (0, u "getFaultSignature"), (0, u "getFirstDetect"), (0, u "isAliased"), (1, u "coverageAt"), (0, u "getFaultCount")] 2

def k2c0 : Code := { maxStack := 5, maxLocals := 4, code := prog_1_method_1_code, exceptionTable := #[], attributes := #[] }
def k2m0 : Method := { name := "<init>", desc := "(III)V", sig := { parameters := [.int, .int, .int], returnType := none }, accessFlags := 1, code := some k2c0 }
def k2c1 : Code := { maxStack := 4, maxLocals := 5, code := prog_1_method_2_code, exceptionTable := #[], attributes := #[] }
def k2m1 : Method := { name := "addGate", desc := "(III)I", sig := { parameters := [.int, .int, .int], returnType := some .int }, accessFlags := 1, code := some k2c1 }
def k2c2 : Code := { maxStack := 3, maxLocals := 2, code := prog_1_method_3_code, exceptionTable := #[], attributes := #[] }
def k2m2 : Method := { name := "markOutput", desc := "(I)Z", sig := { parameters := [.int], returnType := some .boolean }, accessFlags := 1, code := some k2c2 }
def k2c3 : Code := { maxStack := 2, maxLocals := 3, code := prog_1_method_4_code, exceptionTable := #[], attributes := #[] }
def k2m3 : Method := { name := "setSeed", desc := "(I)Z", sig := { parameters := [.int], returnType := some .boolean }, accessFlags := 1, code := some k2c3 }
def k2c4 : Code := { maxStack := 3, maxLocals := 2, code := prog_1_method_5_code, exceptionTable := #[], attributes := #[] }
def k2m4 : Method := { name := "setMisrMask", desc := "(I)Z", sig := { parameters := [.int], returnType := some .boolean }, accessFlags := 1, code := some k2c4 }
def k2c5 : Code := { maxStack := 2, maxLocals := 3, code := prog_1_method_6_code, exceptionTable := #[], attributes := #[] }
def k2m5 : Method := { name := "run", desc := "(I)I", sig := { parameters := [.int], returnType := some .int }, accessFlags := 1, code := some k2c5 }
def k2c6 : Code := { maxStack := 1, maxLocals := 1, code := prog_1_method_7_code, exceptionTable := #[], attributes := #[] }
def k2m6 : Method := { name := "restart", desc := "()V", sig := { parameters := [], returnType := none }, accessFlags := 1, code := some k2c6 }
def k2c7 : Code := { maxStack := 4, maxLocals := 3, code := prog_1_method_8_code, exceptionTable := #[], attributes := #[] }
def k2m7 : Method := { name := "simulate", desc := "(II)I", sig := { parameters := [.int, .int], returnType := some .int }, accessFlags := 1, code := some k2c7 }
def k2c8 : Code := { maxStack := 1, maxLocals := 1, code := prog_1_method_9_code, exceptionTable := #[], attributes := #[] }
def k2m8 : Method := { name := "getPatternCount", desc := "()I", sig := { parameters := [], returnType := some .int }, accessFlags := 1, code := some k2c8 }
def k2c9 : Code := { maxStack := 1, maxLocals := 1, code := prog_1_method_11_code, exceptionTable := #[], attributes := #[] }
def k2m9 : Method := { name := "getGoldenSignature", desc := "()I", sig := { parameters := [], returnType := some .int }, accessFlags := 1, code := some k2c9 }
def k2c10 : Code := { maxStack := 2, maxLocals := 2, code := prog_1_method_12_code, exceptionTable := #[], attributes := #[] }
def k2m10 : Method := { name := "getFaultSignature", desc := "(I)I", sig := { parameters := [.int], returnType := some .int }, accessFlags := 1, code := some k2c10 }
def k2c11 : Code := { maxStack := 2, maxLocals := 2, code := prog_1_method_13_code, exceptionTable := #[], attributes := #[] }
def k2m11 : Method := { name := "getFirstDetect", desc := "(I)I", sig := { parameters := [.int], returnType := some .int }, accessFlags := 1, code := some k2c11 }
def k2c12 : Code := { maxStack := 2, maxLocals := 2, code := prog_1_method_14_code, exceptionTable := #[], attributes := #[] }
def k2m12 : Method := { name := "isAliased", desc := "(I)Z", sig := { parameters := [.int], returnType := some .boolean }, accessFlags := 1, code := some k2c12 }
def k2c13 : Code := { maxStack := 2, maxLocals := 6, code := prog_1_method_16_code, exceptionTable := #[], attributes := #[] }
def k2m13 : Method := { name := "coverageAt", desc := "(I)I", sig := { parameters := [.int], returnType := some .int }, accessFlags := 1, code := some k2c13 }
def k2c14 : Code := { maxStack := 1, maxLocals := 1, code := prog_1_method_17_code, exceptionTable := #[], attributes := #[] }
def k2m14 : Method := { name := "getFaultCount", desc := "()I", sig := { parameters := [], returnType := some .int }, accessFlags := 1, code := some k2c14 }
def k2c15 : Code := { maxStack := 2, maxLocals := 2, code := prog_1_method_18_code, exceptionTable := #[], attributes := #[] }
def k2m15 : Method := { name := "clearSession", desc := "()V", sig := { parameters := [], returnType := none }, accessFlags := 2, code := some k2c15 }
def k2c16 : Code := { maxStack := 3, maxLocals := 2, code := prog_1_method_19_code, exceptionTable := #[], attributes := #[] }
def k2m16 : Method := { name := "resetFault", desc := "(I)V", sig := { parameters := [.int], returnType := none }, accessFlags := 2, code := some k2c16 }
def k2c17 : Code := { maxStack := 3, maxLocals := 6, code := prog_1_method_20_code, exceptionTable := #[], attributes := #[] }
def k2m17 : Method := { name := "appendGate", desc := "(III)I", sig := { parameters := [.int, .int, .int], returnType := some .int }, accessFlags := 2, code := some k2c17 }
def k2c18 : Code := { maxStack := 4, maxLocals := 6, code := prog_1_method_21_code, exceptionTable := #[], attributes := #[] }
def k2m18 : Method := { name := "applyPattern", desc := "()V", sig := { parameters := [], returnType := none }, accessFlags := 2, code := some k2c18 }
def k2c19 : Code := { maxStack := 5, maxLocals := 8, code := prog_1_method_22_code, exceptionTable := #[], attributes := #[] }
def k2m19 : Method := { name := "recordGroup", desc := "(III)V", sig := { parameters := [.int, .int, .int], returnType := none }, accessFlags := 2, code := some k2c19 }
def k2c20 : Code := { maxStack := 7, maxLocals := 7, code := prog_1_method_23_code, exceptionTable := #[], attributes := #[] }
def k2m20 : Method := { name := "evaluateGroup", desc := "(II)V", sig := { parameters := [.int, .int], returnType := none }, accessFlags := 2, code := some k2c20 }
def k2c21 : Code := { maxStack := 2, maxLocals := 3, code := prog_1_method_24_code, exceptionTable := #[], attributes := #[] }
def k2m21 : Method := { name := "inputLane", desc := "(II)J", sig := { parameters := [.int, .int], returnType := some .long }, accessFlags := 2, code := some k2c21 }
def k2c22 : Code := { maxStack := 6, maxLocals := 7, code := prog_1_method_25_code, exceptionTable := #[], attributes := #[] }
def k2m22 : Method := { name := "gateLane", desc := "(I)J", sig := { parameters := [.int], returnType := some .long }, accessFlags := 2, code := some k2c22 }
def k2c23 : Code := { maxStack := 4, maxLocals := 6, code := prog_1_method_26_code, exceptionTable := #[], attributes := #[] }
def k2m23 : Method := { name := "combine", desc := "(IJJ)J", sig := { parameters := [.int, .long, .long], returnType := some .long }, accessFlags := 2, code := some k2c23 }
def k2c24 : Code := { maxStack := 6, maxLocals := 10, code := prog_1_method_27_code, exceptionTable := #[], attributes := #[] }
def k2m24 : Method := { name := "forceLane", desc := "(JII)J", sig := { parameters := [.long, .int, .int], returnType := some .long }, accessFlags := 2, code := some k2c24 }
def k2c25 : Code := { maxStack := 2, maxLocals := 2, code := prog_1_method_28_code, exceptionTable := #[], attributes := #[] }
def k2m25 : Method := { name := "loadLane", desc := "(I)J", sig := { parameters := [.int], returnType := some .long }, accessFlags := 2, code := some k2c25 }
def k2c26 : Code := { maxStack := 4, maxLocals := 6, code := prog_1_method_29_code, exceptionTable := #[], attributes := #[] }
def k2m26 : Method := { name := "outputWordAt", desc := "(I)I", sig := { parameters := [.int], returnType := some .int }, accessFlags := 2, code := some k2c26 }
def k2c27 : Code := { maxStack := 4, maxLocals := 6, code := prog_1_method_30_code, exceptionTable := #[], attributes := #[] }
def k2m27 : Method := { name := "misrStep", desc := "(II)I", sig := { parameters := [.int, .int], returnType := some .int }, accessFlags := 2, code := some k2c27 }
def k2c28 : Code := { maxStack := 2, maxLocals := 4, code := prog_1_method_31_code, exceptionTable := #[], attributes := #[] }
def k2m28 : Method := { name := "lfsrStep", desc := "(I)I", sig := { parameters := [.int], returnType := some .int }, accessFlags := 2, code := some k2c28 }
def k2c29 : Code := { maxStack := 2, maxLocals := 1, code := prog_1_method_32_code, exceptionTable := #[], attributes := #[] }
def k2m29 : Method := { name := "signalCount", desc := "()I", sig := { parameters := [], returnType := some .int }, accessFlags := 2, code := some k2c29 }
def k2c30 : Code := { maxStack := 2, maxLocals := 1, code := prog_1_method_33_code, exceptionTable := #[], attributes := #[] }
def k2m30 : Method := { name := "faultCount", desc := "()I", sig := { parameters := [], returnType := some .int }, accessFlags := 2, code := some k2c30 }
def k2c31 : Code := { maxStack := 2, maxLocals := 1, code := prog_1_method_34_code, exceptionTable := #[], attributes := #[] }
def k2m31 : Method := { name := "groupCount", desc := "()I", sig := { parameters := [], returnType := some .int }, accessFlags := 2, code := some k2c31 }
def k2c32 : Code := { maxStack := 2, maxLocals := 2, code := prog_1_method_35_code, exceptionTable := #[], attributes := #[] }
def k2m32 : Method := { name := "groupFirst", desc := "(I)I", sig := { parameters := [.int], returnType := some .int }, accessFlags := 2, code := some k2c32 }
def k2c33 : Code := { maxStack := 2, maxLocals := 4, code := prog_1_method_36_code, exceptionTable := #[], attributes := #[] }
def k2m33 : Method := { name := "groupEnd", desc := "(I)I", sig := { parameters := [.int], returnType := some .int }, accessFlags := 2, code := some k2c33 }
def k2c34 : Code := { maxStack := 2, maxLocals := 2, code := prog_1_method_37_code, exceptionTable := #[], attributes := #[] }
def k2m34 : Method := { name := "groupOfFault", desc := "(I)I", sig := { parameters := [.int], returnType := some .int }, accessFlags := 2, code := some k2c34 }
def k2c35 : Code := { maxStack := 2, maxLocals := 2, code := prog_1_method_38_code, exceptionTable := #[], attributes := #[] }
def k2m35 : Method := { name := "laneOfFault", desc := "(I)I", sig := { parameters := [.int], returnType := some .int }, accessFlags := 2, code := some k2c35 }
def k2c36 : Code := { maxStack := 2, maxLocals := 2, code := prog_1_method_39_code, exceptionTable := #[], attributes := #[] }
def k2m36 : Method := { name := "firstDetectOf", desc := "(I)I", sig := { parameters := [.int], returnType := some .int }, accessFlags := 2, code := some k2c36 }
def k2c37 : Code := { maxStack := 2, maxLocals := 2, code := prog_1_method_40_code, exceptionTable := #[], attributes := #[] }
def k2m37 : Method := { name := "isSignal", desc := "(I)Z", sig := { parameters := [.int], returnType := some .boolean }, accessFlags := 2, code := some k2c37 }
def k2c38 : Code := { maxStack := 2, maxLocals := 2, code := prog_1_method_41_code, exceptionTable := #[], attributes := #[] }
def k2m38 : Method := { name := "isFault", desc := "(I)Z", sig := { parameters := [.int], returnType := some .boolean }, accessFlags := 2, code := some k2c38 }
def k2c39 : Code := { maxStack := 2, maxLocals := 2, code := prog_1_method_42_code, exceptionTable := #[], attributes := #[] }
def k2m39 : Method := { name := "isGateKind", desc := "(I)Z", sig := { parameters := [.int], returnType := some .boolean }, accessFlags := 2, code := some k2c39 }
def k2c40 : Code := { maxStack := 2, maxLocals := 2, code := prog_1_method_43_code, exceptionTable := #[], attributes := #[] }
def k2m40 : Method := { name := "isTwoOperand", desc := "(I)Z", sig := { parameters := [.int], returnType := some .boolean }, accessFlags := 2, code := some k2c40 }
def k2c41 : Code := { maxStack := 2, maxLocals := 4, code := prog_1_method_44_code, exceptionTable := #[], attributes := #[] }
def k2m41 : Method := { name := "clamp", desc := "(III)I", sig := { parameters := [.int, .int, .int], returnType := some .int }, accessFlags := 2, code := some k2c41 }
/-- LogicBist -/
def k2 : Class := { plain "LogicBist" (some 0) with
  accessFlags := 49
  interfaces := #[]
  cf := some (fileOf pool2 8 #[] #[{ accessFlags := 1, nameIndex := 5, descriptorIndex := 136, attributes := #[] }, { accessFlags := 1, nameIndex := 202, descriptorIndex := 42, attributes := #[] }, { accessFlags := 1, nameIndex := 204, descriptorIndex := 78, attributes := #[] }, { accessFlags := 1, nameIndex := 205, descriptorIndex := 78, attributes := #[] }, { accessFlags := 1, nameIndex := 206, descriptorIndex := 78, attributes := #[] }, { accessFlags := 1, nameIndex := 207, descriptorIndex := 102, attributes := #[] }, { accessFlags := 1, nameIndex := 208, descriptorIndex := 6, attributes := #[] }, { accessFlags := 1, nameIndex := 209, descriptorIndex := 129, attributes := #[] }, { accessFlags := 1, nameIndex := 210, descriptorIndex := 121, attributes := #[] }, { accessFlags := 1, nameIndex := 212, descriptorIndex := 121, attributes := #[] }, { accessFlags := 1, nameIndex := 213, descriptorIndex := 102, attributes := #[] }, { accessFlags := 1, nameIndex := 214, descriptorIndex := 102, attributes := #[] }, { accessFlags := 1, nameIndex := 215, descriptorIndex := 78, attributes := #[] }, { accessFlags := 1, nameIndex := 217, descriptorIndex := 102, attributes := #[] }, { accessFlags := 1, nameIndex := 218, descriptorIndex := 121, attributes := #[] }, { accessFlags := 2, nameIndex := 71, descriptorIndex := 6, attributes := #[] }, { accessFlags := 2, nameIndex := 124, descriptorIndex := 125, attributes := #[] }, { accessFlags := 2, nameIndex := 87, descriptorIndex := 42, attributes := #[] }, { accessFlags := 2, nameIndex := 94, descriptorIndex := 6, attributes := #[] }, { accessFlags := 2, nameIndex := 135, descriptorIndex := 136, attributes := #[] }, { accessFlags := 2, nameIndex := 97, descriptorIndex := 98, attributes := #[] }, { accessFlags := 2, nameIndex := 151, descriptorIndex := 152, attributes := #[] }, { accessFlags := 2, nameIndex := 155, descriptorIndex := 156, attributes := #[] }, { accessFlags := 2, nameIndex := 168, descriptorIndex := 169, attributes := #[] }, { accessFlags := 2, nameIndex := 159, descriptorIndex := 160, attributes := #[] }, { accessFlags := 2, nameIndex := 165, descriptorIndex := 156, attributes := #[] }, { accessFlags := 2, nameIndex := 101, descriptorIndex := 102, attributes := #[] }, { accessFlags := 2, nameIndex := 128, descriptorIndex := 129, attributes := #[] }, { accessFlags := 2, nameIndex := 139, descriptorIndex := 102, attributes := #[] }, { accessFlags := 2, nameIndex := 148, descriptorIndex := 121, attributes := #[] }, { accessFlags := 2, nameIndex := 120, descriptorIndex := 121, attributes := #[] }, { accessFlags := 2, nameIndex := 132, descriptorIndex := 121, attributes := #[] }, { accessFlags := 2, nameIndex := 142, descriptorIndex := 102, attributes := #[] }, { accessFlags := 2, nameIndex := 145, descriptorIndex := 102, attributes := #[] }, { accessFlags := 2, nameIndex := 108, descriptorIndex := 102, attributes := #[] }, { accessFlags := 2, nameIndex := 111, descriptorIndex := 102, attributes := #[] }, { accessFlags := 2, nameIndex := 117, descriptorIndex := 102, attributes := #[] }, { accessFlags := 2, nameIndex := 81, descriptorIndex := 78, attributes := #[] }, { accessFlags := 2, nameIndex := 105, descriptorIndex := 78, attributes := #[] }, { accessFlags := 2, nameIndex := 77, descriptorIndex := 78, attributes := #[] }, { accessFlags := 2, nameIndex := 84, descriptorIndex := 78, attributes := #[] }, { accessFlags := 2, nameIndex := 41, descriptorIndex := 42, attributes := #[] }] 49 2 #[] #[{ accessFlags := 25, nameIndex := 171, descriptorIndex := 46, attributes := #[] }, { accessFlags := 25, nameIndex := 174, descriptorIndex := 46, attributes := #[] }, { accessFlags := 25, nameIndex := 176, descriptorIndex := 46, attributes := #[] }, { accessFlags := 25, nameIndex := 178, descriptorIndex := 46, attributes := #[] }, { accessFlags := 25, nameIndex := 180, descriptorIndex := 46, attributes := #[] }, { accessFlags := 25, nameIndex := 182, descriptorIndex := 46, attributes := #[] }, { accessFlags := 25, nameIndex := 184, descriptorIndex := 46, attributes := #[] }, { accessFlags := 25, nameIndex := 186, descriptorIndex := 46, attributes := #[] }, { accessFlags := 25, nameIndex := 188, descriptorIndex := 46, attributes := #[] }, { accessFlags := 25, nameIndex := 189, descriptorIndex := 46, attributes := #[] }, { accessFlags := 25, nameIndex := 190, descriptorIndex := 46, attributes := #[] }, { accessFlags := 25, nameIndex := 192, descriptorIndex := 46, attributes := #[] }, { accessFlags := 25, nameIndex := 194, descriptorIndex := 46, attributes := #[] }, { accessFlags := 25, nameIndex := 196, descriptorIndex := 46, attributes := #[] }, { accessFlags := 25, nameIndex := 197, descriptorIndex := 46, attributes := #[] }, { accessFlags := 25, nameIndex := 198, descriptorIndex := 46, attributes := #[] }, { accessFlags := 18, nameIndex := 45, descriptorIndex := 46, attributes := #[] }, { accessFlags := 18, nameIndex := 49, descriptorIndex := 46, attributes := #[] }, { accessFlags := 18, nameIndex := 52, descriptorIndex := 46, attributes := #[] }, { accessFlags := 18, nameIndex := 55, descriptorIndex := 46, attributes := #[] }, { accessFlags := 2, nameIndex := 58, descriptorIndex := 46, attributes := #[] }, { accessFlags := 18, nameIndex := 11, descriptorIndex := 12, attributes := #[] }, { accessFlags := 18, nameIndex := 15, descriptorIndex := 12, attributes := #[] }, { accessFlags := 18, nameIndex := 18, descriptorIndex := 12, attributes := #[] }, { accessFlags := 2, nameIndex := 61, descriptorIndex := 46, attributes := #[] }, { accessFlags := 18, nameIndex := 21, descriptorIndex := 12, attributes := #[] }, { accessFlags := 18, nameIndex := 24, descriptorIndex := 25, attributes := #[] }, { accessFlags := 2, nameIndex := 65, descriptorIndex := 46, attributes := #[] }, { accessFlags := 2, nameIndex := 91, descriptorIndex := 46, attributes := #[] }, { accessFlags := 2, nameIndex := 68, descriptorIndex := 46, attributes := #[] }, { accessFlags := 2, nameIndex := 74, descriptorIndex := 46, attributes := #[] }, { accessFlags := 2, nameIndex := 114, descriptorIndex := 46, attributes := #[] }, { accessFlags := 18, nameIndex := 28, descriptorIndex := 12, attributes := #[] }, { accessFlags := 18, nameIndex := 31, descriptorIndex := 12, attributes := #[] }, { accessFlags := 18, nameIndex := 34, descriptorIndex := 25, attributes := #[] }, { accessFlags := 18, nameIndex := 37, descriptorIndex := 38, attributes := #[] }])
  fields := #[{ name := "AND", type := .int, accessFlags := 25, slot := 0, constantValue := 0 }, { name := "OR", type := .int, accessFlags := 25, slot := 1, constantValue := 0 }, { name := "NAND", type := .int, accessFlags := 25, slot := 2, constantValue := 0 }, { name := "NOR", type := .int, accessFlags := 25, slot := 3, constantValue := 0 }, { name := "XOR", type := .int, accessFlags := 25, slot := 4, constantValue := 0 }, { name := "XNOR", type := .int, accessFlags := 25, slot := 5, constantValue := 0 }, { name := "NOT", type := .int, accessFlags := 25, slot := 6, constantValue := 0 }, { name := "BUF", type := .int, accessFlags := 25, slot := 7, constantValue := 0 }, { name := "LFSR_POLY", type := .int, accessFlags := 25, slot := 8, constantValue := 0 }, { name := "DEFAULT_SEED", type := .int, accessFlags := 25, slot := 9, constantValue := 0 }, { name := "MAX_OUTPUTS", type := .int, accessFlags := 25, slot := 10, constantValue := 0 }, { name := "MAX_RUN", type := .int, accessFlags := 25, slot := 11, constantValue := 0 }, { name := "NO_FAULT", type := .int, accessFlags := 25, slot := 12, constantValue := 0 }, { name := "REFUSED", type := .int, accessFlags := 25, slot := 13, constantValue := 0 }, { name := "UNDETECTED", type := .int, accessFlags := 25, slot := 14, constantValue := 0 }, { name := "BAD_FAULT", type := .int, accessFlags := 25, slot := 15, constantValue := 0 }, { name := "inputCount", type := .int, accessFlags := 18, slot := 0, constantValue := 0 }, { name := "gateCap", type := .int, accessFlags := 18, slot := 1, constantValue := 0 }, { name := "width", type := .int, accessFlags := 18, slot := 2, constantValue := 0 }, { name := "widthMask", type := .int, accessFlags := 18, slot := 3, constantValue := 0 }, { name := "gateCount", type := .int, accessFlags := 2, slot := 4, constantValue := 0 }, { name := "gateKind", type := (.array .int), accessFlags := 18, slot := 5, constantValue := 0 }, { name := "gateA", type := (.array .int), accessFlags := 18, slot := 6, constantValue := 0 }, { name := "gateB", type := (.array .int), accessFlags := 18, slot := 7, constantValue := 0 }, { name := "outputCount", type := .int, accessFlags := 2, slot := 8, constantValue := 0 }, { name := "outputSignal", type := (.array .int), accessFlags := 18, slot := 9, constantValue := 0 }, { name := "marked", type := (.array .boolean), accessFlags := 18, slot := 10, constantValue := 0 }, { name := "seed", type := .int, accessFlags := 2, slot := 11, constantValue := 0 }, { name := "lfsr", type := .int, accessFlags := 2, slot := 12, constantValue := 0 }, { name := "misrMask", type := .int, accessFlags := 2, slot := 13, constantValue := 0 }, { name := "patternCount", type := .int, accessFlags := 2, slot := 14, constantValue := 0 }, { name := "golden", type := .int, accessFlags := 2, slot := 15, constantValue := 0 }, { name := "faultSig", type := (.array .int), accessFlags := 18, slot := 16, constantValue := 0 }, { name := "firstDetect", type := (.array .int), accessFlags := 18, slot := 17, constantValue := 0 }, { name := "detected", type := (.array .boolean), accessFlags := 18, slot := 18, constantValue := 0 }, { name := "lane", type := (.array .long), accessFlags := 18, slot := 19, constantValue := 0 }]
  methods := #[k2m0, k2m1, k2m2, k2m3, k2m4, k2m5, k2m6, k2m7, k2m8, k2m9, k2m10, k2m11, k2m12, k2m13, k2m14, k2m15, k2m16, k2m17, k2m18, k2m19, k2m20, k2m21, k2m22, k2m23, k2m24, k2m25, k2m26, k2m27, k2m28, k2m29, k2m30, k2m31, k2m32, k2m33, k2m34, k2m35, k2m36, k2m37, k2m38, k2m39, k2m40, k2m41]
  instanceTypes := #[.int, .int, .int, .int, .int, (.array .int), (.array .int), (.array .int), .int, (.array .int), (.array .boolean), .int, .int, .int, .int, .int, (.array .int), (.array .int), (.array .boolean), (.array .long)]
  staticTypes := #[.int, .int, .int, .int, .int, .int, .int, .int, .int, .int, .int, .int, .int, .int, .int, .int]
  resolved := Array.replicate 221 none
  statics := none }

def pool3 : Array CpInfo := pool [(1, u "java/lang/Cloneable"), (0, .class_ 1), (0, u "java/lang/Object"), (0, .class_ 3)] 3

/-- java/lang/Cloneable -/
def k3 : Class := { plain "java/lang/Cloneable" (some 0) with
  accessFlags := 1537
  interfaces := #[]
  cf := some (fileOf pool3 2 #[] #[] 1537 4 #[] #[])
  fields := #[]
  methods := #[]
  instanceTypes := #[]
  staticTypes := #[]
  resolved := Array.replicate 8 none
  statics := none }

def pool4 : Array CpInfo := pool [(1, u "java/io/Serializable"), (0, .class_ 1), (0, u "java/lang/Object"), (0, .class_ 3)] 3

/-- java/io/Serializable -/
def k4 : Class := { plain "java/io/Serializable" (some 0) with
  accessFlags := 1537
  interfaces := #[]
  cf := some (fileOf pool4 2 #[] #[] 1537 4 #[] #[])
  fields := #[]
  methods := #[]
  instanceTypes := #[]
  staticTypes := #[]
  resolved := Array.replicate 8 none
  statics := none }

/-- the primitive boolean -/
def k5 : Class := { plain "boolean" none with kind := .primitive 'Z', accessFlags := 0x411 }
/-- [Z -/
def k6 : Class := { plain "[Z" (some 0) with kind := .array 5 .boolean, interfaces := #[3, 4], accessFlags := 1041 }

/-- the primitive byte -/
def k7 : Class := { plain "byte" none with kind := .primitive 'B', accessFlags := 0x411 }
/-- [B -/
def k8 : Class := { plain "[B" (some 0) with kind := .array 7 .byte, interfaces := #[3, 4], accessFlags := 1041 }

/-- the primitive int -/
def k9 : Class := { plain "int" none with kind := .primitive 'I', accessFlags := 0x411 }
/-- [I -/
def k10 : Class := { plain "[I" (some 0) with kind := .array 9 .int, interfaces := #[3, 4], accessFlags := 1041 }

/-- the primitive long -/
def k11 : Class := { plain "long" none with kind := .primitive 'J', accessFlags := 0x411 }
/-- [J -/
def k12 : Class := { plain "[J" (some 0) with kind := .array 11 .long, interfaces := #[3, 4], accessFlags := 1041 }

def heap : Heap := #[{ cls := 10, slots := #[.int 0, .int 3, .int 5, .int 1], vm := .none }]
def classes : Array Class := #[k0, k1, k2, k3, k4, k5, k6, k7, k8, k9, k10, k11, k12]
def interned : List (Array UInt16 × Addr) := []
def slotsUsed : Nat := 4
def theMethod : MethodId := ⟨1, 6⟩
def args0 : Array Value := #[.ref 0]
def aboutOver (below : List Frame) : State where
  vm := { classes := classes, interned := interned.toArray }
  heap := heap
  slotsUsed := slotsUsed
  threads := #[{ frames := .invoking theMethod args0 :: below }]
def below0 : List Frame := [.native { method := ⟨0, 0⟩, args := #[] }]
def about1 : State := aboutOver below0
def p0 : Program := .bare "" "" ""
def e0 : Env := launch0.env 0 0 0
theorem w_frames : about1.frames = Frame.invoking theMethod args0 :: below0 := rfl
set_option maxRecDepth 65536 in
theorem w_args : argsFit about1.vm theMethod args0 = true := by decide +kernel
set_option maxRecDepth 65536 in
theorem w_heap : heapFits about1 = true := by decide +kernel
set_option maxRecDepth 65536 in
theorem w_runnable : about1.curStatus? = some .runnable := by decide +kernel
set_option maxRecDepth 65536 in
theorem w_alone : about1.alone = true := by decide +kernel
set_option maxRecDepth 65536 in
theorem w_named : about1.methodNamed? x = some theMethod := by decide +kernel
set_option maxRecDepth 65536 in
theorem w_hears : about1.hears theMethod below0 = true := by decide +kernel
set_option maxRecDepth 65536 in
theorem w_ripe : about1.ripe theMethod args0 below0 = true := by decide +kernel
theorem w_running : about1.status = .running := rfl
set_option maxRecDepth 65536 in
theorem w_room : about1.hasRoom e0.platform room_1 = true :=
  launch0.hasRoom_least _ room_1 (by decide +kernel) (by decide +kernel) (by decide +kernel) (by decide +kernel) (by decide +kernel) (by decide +kernel)
theorem allAtoms_all (ts : List Jvm.Cond) (a : Array Jvm.Value) (st : Jvm.State) : (allAtoms ts).before a st = ts.all (fun c => c.before a st) := by
  induction ts with
  | nil => rfl
  | cons c t ih =>
    show (Jvm.Cond.and c (allAtoms t)).before a st = _
    rw [Jvm.Cond.before_and, ih, List.all_cons]
def words1 : List Jvm.Cond := Jvm.Cond.code x code maxLocals ret :: tables_1
/-- a 'code' word, met by the world's own term for the bytes: nothing is compared byte by byte -/
theorem code_word {y : MethodName} {bytes : ByteArray} {mx : Nat} {rt : Option FieldType} {a : Array Value} {s : State} {m : MethodId} {meth : Method} {c : Code} (h1 : s.methodNamed? y = some m) (h2 : s.vm.method? m = some meth) (h3 : meth.code = some c) (h4 : c.code = bytes)
    (h5 : (c.maxLocals == mx && c.exceptionTable.isEmpty && decide (c.maxStack ≤ mostOperands) && decide (meth.sig.returnType = rt) && !meth.locks && decide (parseMethodDescriptor y.desc = some meth.sig)) = true) : (Jvm.Cond.code y bytes mx rt).before a s = true := by
  simp only [Bool.and_eq_true, beq_iff_eq, Bool.not_eq_true', decide_eq_true_eq] at h5
  obtain ⟨⟨⟨⟨⟨g1, g2⟩, g3⟩, g4⟩, g5⟩, g6⟩ := h5
  simp [Cond.before, Cond.holds, Cond.value, h1, h2, h3, h4, g1, g2, g3, g4, g5, g6]
def isCode : Jvm.Cond → Bool
  | .code _ _ _ _ => true
  | _ => false
theorem all_split {L : List Jvm.Cond} {P : Jvm.Cond → Bool} (h1 : L.all (fun c => isCode c || P c) = true) (h2 : ∀ c ∈ L.filter isCode, P c = true) : L.all P = true := by
  refine List.all_eq_true.mpr fun c hc => ?_
  have h := List.all_eq_true.mp h1 c hc
  rcases Bool.eq_false_or_eq_true (isCode c) with hi | hi
  · exact h2 c (List.mem_filter.mpr ⟨hc, hi⟩)
  · simpa [hi] using h
set_option maxRecDepth 65536 in
theorem w_c0 : (Jvm.Cond.code x code maxLocals ret).before args0 about1 = true := code_word (m := ⟨1, 6⟩) (meth := k1m6) (c := k1c6) (by decide +kernel) rfl rfl rfl (by decide +kernel)
set_option maxRecDepth 65536 in
theorem w_c1 : (Jvm.Cond.code ({ cls := "LogicBistOwnLaw", name := "cell", desc := "([II)I" } : Jvm.MethodName) method_2_code (2 : Nat) (Option.some Jvm.ClassFile.FieldType.int)).before args0 about1 = true := code_word (m := ⟨1, 1⟩) (meth := k1m1) (c := k1c1) (by decide +kernel) rfl rfl rfl (by decide +kernel)
set_option maxRecDepth 65536 in
theorem w_c2 : (Jvm.Cond.code ({ cls := "LogicBistOwnLaw", name := "pos", desc := "(I)I" } : Jvm.MethodName) method_3_code (1 : Nat) (Option.some Jvm.ClassFile.FieldType.int)).before args0 about1 = true := code_word (m := ⟨1, 2⟩) (meth := k1m2) (c := k1c2) (by decide +kernel) rfl rfl rfl (by decide +kernel)
set_option maxRecDepth 65536 in
theorem w_c3 : (Jvm.Cond.code ({ cls := "LogicBist", name := "<init>", desc := "(III)V" } : Jvm.MethodName) prog_1_method_1_code (4 : Nat) (Option.none : Option Jvm.ClassFile.FieldType)).before args0 about1 = true := code_word (m := ⟨2, 0⟩) (meth := k2m0) (c := k2c0) (by decide +kernel) rfl rfl rfl (by decide +kernel)
set_option maxRecDepth 65536 in
theorem w_c4 : (Jvm.Cond.code ({ cls := "java/lang/Object", name := "<init>", desc := "()V" } : Jvm.MethodName) object_method_1_code (1 : Nat) (Option.none : Option Jvm.ClassFile.FieldType)).before args0 about1 = true := code_word (m := ⟨0, 0⟩) (meth := k0m0) (c := k0c0) (by decide +kernel) rfl rfl rfl (by decide +kernel)
set_option maxRecDepth 65536 in
theorem w_c5 : (Jvm.Cond.code ({ cls := "LogicBist", name := "clamp", desc := "(III)I" } : Jvm.MethodName) prog_1_method_44_code (4 : Nat) (Option.some Jvm.ClassFile.FieldType.int)).before args0 about1 = true := code_word (m := ⟨2, 41⟩) (meth := k2m41) (c := k2c41) (by decide +kernel) rfl rfl rfl (by decide +kernel)
set_option maxRecDepth 65536 in
theorem w_c6 : (Jvm.Cond.code ({ cls := "LogicBist", name := "clearSession", desc := "()V" } : Jvm.MethodName) prog_1_method_18_code (2 : Nat) (Option.none : Option Jvm.ClassFile.FieldType)).before args0 about1 = true := code_word (m := ⟨2, 15⟩) (meth := k2m15) (c := k2c15) (by decide +kernel) rfl rfl rfl (by decide +kernel)
set_option maxRecDepth 65536 in
theorem w_c7 : (Jvm.Cond.code ({ cls := "LogicBist", name := "resetFault", desc := "(I)V" } : Jvm.MethodName) prog_1_method_19_code (2 : Nat) (Option.none : Option Jvm.ClassFile.FieldType)).before args0 about1 = true := code_word (m := ⟨2, 16⟩) (meth := k2m16) (c := k2c16) (by decide +kernel) rfl rfl rfl (by decide +kernel)
set_option maxRecDepth 65536 in
theorem w_c8 : (Jvm.Cond.code ({ cls := "LogicBist", name := "addGate", desc := "(III)I" } : Jvm.MethodName) prog_1_method_2_code (5 : Nat) (Option.some Jvm.ClassFile.FieldType.int)).before args0 about1 = true := code_word (m := ⟨2, 1⟩) (meth := k2m1) (c := k2c1) (by decide +kernel) rfl rfl rfl (by decide +kernel)
set_option maxRecDepth 65536 in
theorem w_c9 : (Jvm.Cond.code ({ cls := "LogicBist", name := "isGateKind", desc := "(I)Z" } : Jvm.MethodName) prog_1_method_42_code (2 : Nat) (Option.some Jvm.ClassFile.FieldType.boolean)).before args0 about1 = true := code_word (m := ⟨2, 39⟩) (meth := k2m39) (c := k2c39) (by decide +kernel) rfl rfl rfl (by decide +kernel)
set_option maxRecDepth 65536 in
theorem w_c10 : (Jvm.Cond.code ({ cls := "LogicBist", name := "isSignal", desc := "(I)Z" } : Jvm.MethodName) prog_1_method_40_code (2 : Nat) (Option.some Jvm.ClassFile.FieldType.boolean)).before args0 about1 = true := code_word (m := ⟨2, 37⟩) (meth := k2m37) (c := k2c37) (by decide +kernel) rfl rfl rfl (by decide +kernel)
set_option maxRecDepth 65536 in
theorem w_c11 : (Jvm.Cond.code ({ cls := "LogicBist", name := "signalCount", desc := "()I" } : Jvm.MethodName) prog_1_method_32_code (1 : Nat) (Option.some Jvm.ClassFile.FieldType.int)).before args0 about1 = true := code_word (m := ⟨2, 29⟩) (meth := k2m29) (c := k2c29) (by decide +kernel) rfl rfl rfl (by decide +kernel)
set_option maxRecDepth 65536 in
theorem w_c12 : (Jvm.Cond.code ({ cls := "LogicBist", name := "isTwoOperand", desc := "(I)Z" } : Jvm.MethodName) prog_1_method_43_code (2 : Nat) (Option.some Jvm.ClassFile.FieldType.boolean)).before args0 about1 = true := code_word (m := ⟨2, 40⟩) (meth := k2m40) (c := k2c40) (by decide +kernel) rfl rfl rfl (by decide +kernel)
set_option maxRecDepth 65536 in
theorem w_c13 : (Jvm.Cond.code ({ cls := "LogicBist", name := "appendGate", desc := "(III)I" } : Jvm.MethodName) prog_1_method_20_code (6 : Nat) (Option.some Jvm.ClassFile.FieldType.int)).before args0 about1 = true := code_word (m := ⟨2, 17⟩) (meth := k2m17) (c := k2c17) (by decide +kernel) rfl rfl rfl (by decide +kernel)
set_option maxRecDepth 65536 in
theorem w_c14 : (Jvm.Cond.code ({ cls := "LogicBist", name := "markOutput", desc := "(I)Z" } : Jvm.MethodName) prog_1_method_3_code (2 : Nat) (Option.some Jvm.ClassFile.FieldType.boolean)).before args0 about1 = true := code_word (m := ⟨2, 2⟩) (meth := k2m2) (c := k2c2) (by decide +kernel) rfl rfl rfl (by decide +kernel)
set_option maxRecDepth 65536 in
theorem w_c15 : (Jvm.Cond.code ({ cls := "LogicBistOwnLaw", name := "check", desc := "(LLogicBist;IIIII)Z" } : Jvm.MethodName) method_6_code (16 : Nat) (Option.some Jvm.ClassFile.FieldType.boolean)).before args0 about1 = true := code_word (m := ⟨1, 5⟩) (meth := k1m5) (c := k1c5) (by decide +kernel) rfl rfl rfl (by decide +kernel)
set_option maxRecDepth 65536 in
theorem w_c16 : (Jvm.Cond.code ({ cls := "LogicBist", name := "getPatternCount", desc := "()I" } : Jvm.MethodName) prog_1_method_9_code (1 : Nat) (Option.some Jvm.ClassFile.FieldType.int)).before args0 about1 = true := code_word (m := ⟨2, 8⟩) (meth := k2m8) (c := k2c8) (by decide +kernel) rfl rfl rfl (by decide +kernel)
set_option maxRecDepth 65536 in
theorem w_c17 : (Jvm.Cond.code ({ cls := "LogicBist", name := "getFaultCount", desc := "()I" } : Jvm.MethodName) prog_1_method_17_code (1 : Nat) (Option.some Jvm.ClassFile.FieldType.int)).before args0 about1 = true := code_word (m := ⟨2, 14⟩) (meth := k2m14) (c := k2c14) (by decide +kernel) rfl rfl rfl (by decide +kernel)
set_option maxRecDepth 65536 in
theorem w_c18 : (Jvm.Cond.code ({ cls := "LogicBist", name := "faultCount", desc := "()I" } : Jvm.MethodName) prog_1_method_33_code (1 : Nat) (Option.some Jvm.ClassFile.FieldType.int)).before args0 about1 = true := code_word (m := ⟨2, 30⟩) (meth := k2m30) (c := k2c30) (by decide +kernel) rfl rfl rfl (by decide +kernel)
set_option maxRecDepth 65536 in
theorem w_c19 : (Jvm.Cond.code ({ cls := "LogicBist", name := "getGoldenSignature", desc := "()I" } : Jvm.MethodName) prog_1_method_11_code (1 : Nat) (Option.some Jvm.ClassFile.FieldType.int)).before args0 about1 = true := code_word (m := ⟨2, 9⟩) (meth := k2m9) (c := k2c9) (by decide +kernel) rfl rfl rfl (by decide +kernel)
set_option maxRecDepth 65536 in
theorem w_c20 : (Jvm.Cond.code ({ cls := "LogicBist", name := "getFirstDetect", desc := "(I)I" } : Jvm.MethodName) prog_1_method_13_code (2 : Nat) (Option.some Jvm.ClassFile.FieldType.int)).before args0 about1 = true := code_word (m := ⟨2, 11⟩) (meth := k2m11) (c := k2c11) (by decide +kernel) rfl rfl rfl (by decide +kernel)
set_option maxRecDepth 65536 in
theorem w_c21 : (Jvm.Cond.code ({ cls := "LogicBist", name := "isFault", desc := "(I)Z" } : Jvm.MethodName) prog_1_method_41_code (2 : Nat) (Option.some Jvm.ClassFile.FieldType.boolean)).before args0 about1 = true := code_word (m := ⟨2, 38⟩) (meth := k2m38) (c := k2c38) (by decide +kernel) rfl rfl rfl (by decide +kernel)
set_option maxRecDepth 65536 in
theorem w_c22 : (Jvm.Cond.code ({ cls := "LogicBist", name := "firstDetectOf", desc := "(I)I" } : Jvm.MethodName) prog_1_method_39_code (2 : Nat) (Option.some Jvm.ClassFile.FieldType.int)).before args0 about1 = true := code_word (m := ⟨2, 36⟩) (meth := k2m36) (c := k2c36) (by decide +kernel) rfl rfl rfl (by decide +kernel)
set_option maxRecDepth 65536 in
theorem w_c23 : (Jvm.Cond.code ({ cls := "LogicBist", name := "getFaultSignature", desc := "(I)I" } : Jvm.MethodName) prog_1_method_12_code (2 : Nat) (Option.some Jvm.ClassFile.FieldType.int)).before args0 about1 = true := code_word (m := ⟨2, 10⟩) (meth := k2m10) (c := k2c10) (by decide +kernel) rfl rfl rfl (by decide +kernel)
set_option maxRecDepth 65536 in
theorem w_c24 : (Jvm.Cond.code ({ cls := "LogicBist", name := "isAliased", desc := "(I)Z" } : Jvm.MethodName) prog_1_method_14_code (2 : Nat) (Option.some Jvm.ClassFile.FieldType.boolean)).before args0 about1 = true := code_word (m := ⟨2, 12⟩) (meth := k2m12) (c := k2c12) (by decide +kernel) rfl rfl rfl (by decide +kernel)
set_option maxRecDepth 65536 in
theorem w_c25 : (Jvm.Cond.code ({ cls := "LogicBist", name := "coverageAt", desc := "(I)I" } : Jvm.MethodName) prog_1_method_16_code (6 : Nat) (Option.some Jvm.ClassFile.FieldType.int)).before args0 about1 = true := code_word (m := ⟨2, 13⟩) (meth := k2m13) (c := k2c13) (by decide +kernel) rfl rfl rfl (by decide +kernel)
set_option maxRecDepth 65536 in
theorem w_c26 : (Jvm.Cond.code ({ cls := "LogicBist", name := "setSeed", desc := "(I)Z" } : Jvm.MethodName) prog_1_method_4_code (3 : Nat) (Option.some Jvm.ClassFile.FieldType.boolean)).before args0 about1 = true := code_word (m := ⟨2, 3⟩) (meth := k2m3) (c := k2c3) (by decide +kernel) rfl rfl rfl (by decide +kernel)
set_option maxRecDepth 65536 in
theorem w_c27 : (Jvm.Cond.code ({ cls := "LogicBist", name := "run", desc := "(I)I" } : Jvm.MethodName) prog_1_method_6_code (3 : Nat) (Option.some Jvm.ClassFile.FieldType.int)).before args0 about1 = true := code_word (m := ⟨2, 5⟩) (meth := k2m5) (c := k2c5) (by decide +kernel) rfl rfl rfl (by decide +kernel)
set_option maxRecDepth 65536 in
theorem w_c28 : (Jvm.Cond.code ({ cls := "LogicBist", name := "applyPattern", desc := "()V" } : Jvm.MethodName) prog_1_method_21_code (6 : Nat) (Option.none : Option Jvm.ClassFile.FieldType)).before args0 about1 = true := code_word (m := ⟨2, 18⟩) (meth := k2m18) (c := k2c18) (by decide +kernel) rfl rfl rfl (by decide +kernel)
set_option maxRecDepth 65536 in
theorem w_c29 : (Jvm.Cond.code ({ cls := "LogicBist", name := "evaluateGroup", desc := "(II)V" } : Jvm.MethodName) prog_1_method_23_code (7 : Nat) (Option.none : Option Jvm.ClassFile.FieldType)).before args0 about1 = true := code_word (m := ⟨2, 20⟩) (meth := k2m20) (c := k2c20) (by decide +kernel) rfl rfl rfl (by decide +kernel)
set_option maxRecDepth 65536 in
theorem w_c30 : (Jvm.Cond.code ({ cls := "LogicBist", name := "inputLane", desc := "(II)J" } : Jvm.MethodName) prog_1_method_24_code (3 : Nat) (Option.some Jvm.ClassFile.FieldType.long)).before args0 about1 = true := code_word (m := ⟨2, 21⟩) (meth := k2m21) (c := k2c21) (by decide +kernel) rfl rfl rfl (by decide +kernel)
set_option maxRecDepth 65536 in
theorem w_c31 : (Jvm.Cond.code ({ cls := "LogicBist", name := "forceLane", desc := "(JII)J" } : Jvm.MethodName) prog_1_method_27_code (10 : Nat) (Option.some Jvm.ClassFile.FieldType.long)).before args0 about1 = true := code_word (m := ⟨2, 24⟩) (meth := k2m24) (c := k2c24) (by decide +kernel) rfl rfl rfl (by decide +kernel)
set_option maxRecDepth 65536 in
theorem w_c32 : (Jvm.Cond.code ({ cls := "LogicBist", name := "gateLane", desc := "(I)J" } : Jvm.MethodName) prog_1_method_25_code (7 : Nat) (Option.some Jvm.ClassFile.FieldType.long)).before args0 about1 = true := code_word (m := ⟨2, 22⟩) (meth := k2m22) (c := k2c22) (by decide +kernel) rfl rfl rfl (by decide +kernel)
set_option maxRecDepth 65536 in
theorem w_c33 : (Jvm.Cond.code ({ cls := "LogicBist", name := "loadLane", desc := "(I)J" } : Jvm.MethodName) prog_1_method_28_code (2 : Nat) (Option.some Jvm.ClassFile.FieldType.long)).before args0 about1 = true := code_word (m := ⟨2, 25⟩) (meth := k2m25) (c := k2c25) (by decide +kernel) rfl rfl rfl (by decide +kernel)
set_option maxRecDepth 65536 in
theorem w_c34 : (Jvm.Cond.code ({ cls := "LogicBist", name := "combine", desc := "(IJJ)J" } : Jvm.MethodName) prog_1_method_26_code (6 : Nat) (Option.some Jvm.ClassFile.FieldType.long)).before args0 about1 = true := code_word (m := ⟨2, 23⟩) (meth := k2m23) (c := k2c23) (by decide +kernel) rfl rfl rfl (by decide +kernel)
set_option maxRecDepth 65536 in
theorem w_c35 : (Jvm.Cond.code ({ cls := "LogicBist", name := "outputWordAt", desc := "(I)I" } : Jvm.MethodName) prog_1_method_29_code (6 : Nat) (Option.some Jvm.ClassFile.FieldType.int)).before args0 about1 = true := code_word (m := ⟨2, 26⟩) (meth := k2m26) (c := k2c26) (by decide +kernel) rfl rfl rfl (by decide +kernel)
set_option maxRecDepth 65536 in
theorem w_c36 : (Jvm.Cond.code ({ cls := "LogicBist", name := "misrStep", desc := "(II)I" } : Jvm.MethodName) prog_1_method_30_code (6 : Nat) (Option.some Jvm.ClassFile.FieldType.int)).before args0 about1 = true := code_word (m := ⟨2, 27⟩) (meth := k2m27) (c := k2c27) (by decide +kernel) rfl rfl rfl (by decide +kernel)
set_option maxRecDepth 65536 in
theorem w_c37 : (Jvm.Cond.code ({ cls := "LogicBist", name := "groupCount", desc := "()I" } : Jvm.MethodName) prog_1_method_34_code (1 : Nat) (Option.some Jvm.ClassFile.FieldType.int)).before args0 about1 = true := code_word (m := ⟨2, 31⟩) (meth := k2m31) (c := k2c31) (by decide +kernel) rfl rfl rfl (by decide +kernel)
set_option maxRecDepth 65536 in
theorem w_c38 : (Jvm.Cond.code ({ cls := "LogicBist", name := "recordGroup", desc := "(III)V" } : Jvm.MethodName) prog_1_method_22_code (8 : Nat) (Option.none : Option Jvm.ClassFile.FieldType)).before args0 about1 = true := code_word (m := ⟨2, 19⟩) (meth := k2m19) (c := k2c19) (by decide +kernel) rfl rfl rfl (by decide +kernel)
set_option maxRecDepth 65536 in
theorem w_c39 : (Jvm.Cond.code ({ cls := "LogicBist", name := "groupFirst", desc := "(I)I" } : Jvm.MethodName) prog_1_method_35_code (2 : Nat) (Option.some Jvm.ClassFile.FieldType.int)).before args0 about1 = true := code_word (m := ⟨2, 32⟩) (meth := k2m32) (c := k2c32) (by decide +kernel) rfl rfl rfl (by decide +kernel)
set_option maxRecDepth 65536 in
theorem w_c40 : (Jvm.Cond.code ({ cls := "LogicBist", name := "groupEnd", desc := "(I)I" } : Jvm.MethodName) prog_1_method_36_code (4 : Nat) (Option.some Jvm.ClassFile.FieldType.int)).before args0 about1 = true := code_word (m := ⟨2, 33⟩) (meth := k2m33) (c := k2c33) (by decide +kernel) rfl rfl rfl (by decide +kernel)
set_option maxRecDepth 65536 in
theorem w_c41 : (Jvm.Cond.code ({ cls := "LogicBist", name := "lfsrStep", desc := "(I)I" } : Jvm.MethodName) prog_1_method_31_code (4 : Nat) (Option.some Jvm.ClassFile.FieldType.int)).before args0 about1 = true := code_word (m := ⟨2, 28⟩) (meth := k2m28) (c := k2c28) (by decide +kernel) rfl rfl rfl (by decide +kernel)
set_option maxRecDepth 65536 in
theorem w_c42 : (Jvm.Cond.code ({ cls := "LogicBist", name := "simulate", desc := "(II)I" } : Jvm.MethodName) prog_1_method_8_code (3 : Nat) (Option.some Jvm.ClassFile.FieldType.int)).before args0 about1 = true := code_word (m := ⟨2, 7⟩) (meth := k2m7) (c := k2c7) (by decide +kernel) rfl rfl rfl (by decide +kernel)
set_option maxRecDepth 65536 in
theorem w_c43 : (Jvm.Cond.code ({ cls := "LogicBistOwnLaw", name := "misr", desc := "(IIII)I" } : Jvm.MethodName) method_5_code (6 : Nat) (Option.some Jvm.ClassFile.FieldType.int)).before args0 about1 = true := code_word (m := ⟨1, 4⟩) (meth := k1m4) (c := k1c4) (by decide +kernel) rfl rfl rfl (by decide +kernel)
set_option maxRecDepth 65536 in
theorem w_c44 : (Jvm.Cond.code ({ cls := "LogicBistOwnLaw", name := "lfsr", desc := "(I)I" } : Jvm.MethodName) method_4_code (2 : Nat) (Option.some Jvm.ClassFile.FieldType.int)).before args0 about1 = true := code_word (m := ⟨1, 3⟩) (meth := k1m3) (c := k1c3) (by decide +kernel) rfl rfl rfl (by decide +kernel)
set_option maxRecDepth 65536 in
theorem w_c45 : (Jvm.Cond.code ({ cls := "LogicBist", name := "groupOfFault", desc := "(I)I" } : Jvm.MethodName) prog_1_method_37_code (2 : Nat) (Option.some Jvm.ClassFile.FieldType.int)).before args0 about1 = true := code_word (m := ⟨2, 34⟩) (meth := k2m34) (c := k2c34) (by decide +kernel) rfl rfl rfl (by decide +kernel)
set_option maxRecDepth 65536 in
theorem w_c46 : (Jvm.Cond.code ({ cls := "LogicBist", name := "laneOfFault", desc := "(I)I" } : Jvm.MethodName) prog_1_method_38_code (2 : Nat) (Option.some Jvm.ClassFile.FieldType.int)).before args0 about1 = true := code_word (m := ⟨2, 35⟩) (meth := k2m35) (c := k2c35) (by decide +kernel) rfl rfl rfl (by decide +kernel)
set_option maxRecDepth 65536 in
theorem w_c47 : (Jvm.Cond.code ({ cls := "LogicBist", name := "restart", desc := "()V" } : Jvm.MethodName) prog_1_method_7_code (1 : Nat) (Option.none : Option Jvm.ClassFile.FieldType)).before args0 about1 = true := code_word (m := ⟨2, 6⟩) (meth := k2m6) (c := k2c6) (by decide +kernel) rfl rfl rfl (by decide +kernel)
set_option maxRecDepth 65536 in
theorem w_c48 : (Jvm.Cond.code ({ cls := "LogicBist", name := "setMisrMask", desc := "(I)Z" } : Jvm.MethodName) prog_1_method_5_code (2 : Nat) (Option.some Jvm.ClassFile.FieldType.boolean)).before args0 about1 = true := code_word (m := ⟨2, 4⟩) (meth := k2m4) (c := k2c4) (by decide +kernel) rfl rfl rfl (by decide +kernel)
def codes1 : List Jvm.Cond := [Jvm.Cond.code x code maxLocals ret, Jvm.Cond.code ({ cls := "LogicBistOwnLaw", name := "cell", desc := "([II)I" } : Jvm.MethodName) method_2_code (2 : Nat) (Option.some Jvm.ClassFile.FieldType.int), Jvm.Cond.code ({ cls := "LogicBistOwnLaw", name := "pos", desc := "(I)I" } : Jvm.MethodName) method_3_code (1 : Nat) (Option.some Jvm.ClassFile.FieldType.int), Jvm.Cond.code ({ cls := "LogicBist", name := "<init>", desc := "(III)V" } : Jvm.MethodName) prog_1_method_1_code (4 : Nat) (Option.none : Option Jvm.ClassFile.FieldType), Jvm.Cond.code ({ cls := "java/lang/Object", name := "<init>", desc := "()V" } : Jvm.MethodName) object_method_1_code (1 : Nat) (Option.none : Option Jvm.ClassFile.FieldType), Jvm.Cond.code ({ cls := "LogicBist", name := "clamp", desc := "(III)I" } : Jvm.MethodName) prog_1_method_44_code (4 : Nat) (Option.some Jvm.ClassFile.FieldType.int), Jvm.Cond.code ({ cls := "LogicBist", name := "clearSession", desc := "()V" } : Jvm.MethodName) prog_1_method_18_code (2 : Nat) (Option.none : Option Jvm.ClassFile.FieldType), Jvm.Cond.code ({ cls := "LogicBist", name := "resetFault", desc := "(I)V" } : Jvm.MethodName) prog_1_method_19_code (2 : Nat) (Option.none : Option Jvm.ClassFile.FieldType), Jvm.Cond.code ({ cls := "LogicBist", name := "addGate", desc := "(III)I" } : Jvm.MethodName) prog_1_method_2_code (5 : Nat) (Option.some Jvm.ClassFile.FieldType.int), Jvm.Cond.code ({ cls := "LogicBist", name := "isGateKind", desc := "(I)Z" } : Jvm.MethodName) prog_1_method_42_code (2 : Nat) (Option.some Jvm.ClassFile.FieldType.boolean), Jvm.Cond.code ({ cls := "LogicBist", name := "isSignal", desc := "(I)Z" } : Jvm.MethodName) prog_1_method_40_code (2 : Nat) (Option.some Jvm.ClassFile.FieldType.boolean), Jvm.Cond.code ({ cls := "LogicBist", name := "signalCount", desc := "()I" } : Jvm.MethodName) prog_1_method_32_code (1 : Nat) (Option.some Jvm.ClassFile.FieldType.int), Jvm.Cond.code ({ cls := "LogicBist", name := "isTwoOperand", desc := "(I)Z" } : Jvm.MethodName) prog_1_method_43_code (2 : Nat) (Option.some Jvm.ClassFile.FieldType.boolean), Jvm.Cond.code ({ cls := "LogicBist", name := "appendGate", desc := "(III)I" } : Jvm.MethodName) prog_1_method_20_code (6 : Nat) (Option.some Jvm.ClassFile.FieldType.int), Jvm.Cond.code ({ cls := "LogicBist", name := "markOutput", desc := "(I)Z" } : Jvm.MethodName) prog_1_method_3_code (2 : Nat) (Option.some Jvm.ClassFile.FieldType.boolean), Jvm.Cond.code ({ cls := "LogicBistOwnLaw", name := "check", desc := "(LLogicBist;IIIII)Z" } : Jvm.MethodName) method_6_code (16 : Nat) (Option.some Jvm.ClassFile.FieldType.boolean), Jvm.Cond.code ({ cls := "LogicBist", name := "getPatternCount", desc := "()I" } : Jvm.MethodName) prog_1_method_9_code (1 : Nat) (Option.some Jvm.ClassFile.FieldType.int), Jvm.Cond.code ({ cls := "LogicBist", name := "getFaultCount", desc := "()I" } : Jvm.MethodName) prog_1_method_17_code (1 : Nat) (Option.some Jvm.ClassFile.FieldType.int), Jvm.Cond.code ({ cls := "LogicBist", name := "faultCount", desc := "()I" } : Jvm.MethodName) prog_1_method_33_code (1 : Nat) (Option.some Jvm.ClassFile.FieldType.int), Jvm.Cond.code ({ cls := "LogicBist", name := "getGoldenSignature", desc := "()I" } : Jvm.MethodName) prog_1_method_11_code (1 : Nat) (Option.some Jvm.ClassFile.FieldType.int), Jvm.Cond.code ({ cls := "LogicBist", name := "getFirstDetect", desc := "(I)I" } : Jvm.MethodName) prog_1_method_13_code (2 : Nat) (Option.some Jvm.ClassFile.FieldType.int), Jvm.Cond.code ({ cls := "LogicBist", name := "isFault", desc := "(I)Z" } : Jvm.MethodName) prog_1_method_41_code (2 : Nat) (Option.some Jvm.ClassFile.FieldType.boolean), Jvm.Cond.code ({ cls := "LogicBist", name := "firstDetectOf", desc := "(I)I" } : Jvm.MethodName) prog_1_method_39_code (2 : Nat) (Option.some Jvm.ClassFile.FieldType.int), Jvm.Cond.code ({ cls := "LogicBist", name := "getFaultSignature", desc := "(I)I" } : Jvm.MethodName) prog_1_method_12_code (2 : Nat) (Option.some Jvm.ClassFile.FieldType.int), Jvm.Cond.code ({ cls := "LogicBist", name := "isAliased", desc := "(I)Z" } : Jvm.MethodName) prog_1_method_14_code (2 : Nat) (Option.some Jvm.ClassFile.FieldType.boolean), Jvm.Cond.code ({ cls := "LogicBist", name := "coverageAt", desc := "(I)I" } : Jvm.MethodName) prog_1_method_16_code (6 : Nat) (Option.some Jvm.ClassFile.FieldType.int), Jvm.Cond.code ({ cls := "LogicBist", name := "setSeed", desc := "(I)Z" } : Jvm.MethodName) prog_1_method_4_code (3 : Nat) (Option.some Jvm.ClassFile.FieldType.boolean), Jvm.Cond.code ({ cls := "LogicBist", name := "run", desc := "(I)I" } : Jvm.MethodName) prog_1_method_6_code (3 : Nat) (Option.some Jvm.ClassFile.FieldType.int), Jvm.Cond.code ({ cls := "LogicBist", name := "applyPattern", desc := "()V" } : Jvm.MethodName) prog_1_method_21_code (6 : Nat) (Option.none : Option Jvm.ClassFile.FieldType), Jvm.Cond.code ({ cls := "LogicBist", name := "evaluateGroup", desc := "(II)V" } : Jvm.MethodName) prog_1_method_23_code (7 : Nat) (Option.none : Option Jvm.ClassFile.FieldType), Jvm.Cond.code ({ cls := "LogicBist", name := "inputLane", desc := "(II)J" } : Jvm.MethodName) prog_1_method_24_code (3 : Nat) (Option.some Jvm.ClassFile.FieldType.long), Jvm.Cond.code ({ cls := "LogicBist", name := "forceLane", desc := "(JII)J" } : Jvm.MethodName) prog_1_method_27_code (10 : Nat) (Option.some Jvm.ClassFile.FieldType.long), Jvm.Cond.code ({ cls := "LogicBist", name := "gateLane", desc := "(I)J" } : Jvm.MethodName) prog_1_method_25_code (7 : Nat) (Option.some Jvm.ClassFile.FieldType.long), Jvm.Cond.code ({ cls := "LogicBist", name := "loadLane", desc := "(I)J" } : Jvm.MethodName) prog_1_method_28_code (2 : Nat) (Option.some Jvm.ClassFile.FieldType.long), Jvm.Cond.code ({ cls := "LogicBist", name := "combine", desc := "(IJJ)J" } : Jvm.MethodName) prog_1_method_26_code (6 : Nat) (Option.some Jvm.ClassFile.FieldType.long), Jvm.Cond.code ({ cls := "LogicBist", name := "outputWordAt", desc := "(I)I" } : Jvm.MethodName) prog_1_method_29_code (6 : Nat) (Option.some Jvm.ClassFile.FieldType.int), Jvm.Cond.code ({ cls := "LogicBist", name := "misrStep", desc := "(II)I" } : Jvm.MethodName) prog_1_method_30_code (6 : Nat) (Option.some Jvm.ClassFile.FieldType.int), Jvm.Cond.code ({ cls := "LogicBist", name := "groupCount", desc := "()I" } : Jvm.MethodName) prog_1_method_34_code (1 : Nat) (Option.some Jvm.ClassFile.FieldType.int), Jvm.Cond.code ({ cls := "LogicBist", name := "recordGroup", desc := "(III)V" } : Jvm.MethodName) prog_1_method_22_code (8 : Nat) (Option.none : Option Jvm.ClassFile.FieldType), Jvm.Cond.code ({ cls := "LogicBist", name := "groupFirst", desc := "(I)I" } : Jvm.MethodName) prog_1_method_35_code (2 : Nat) (Option.some Jvm.ClassFile.FieldType.int), Jvm.Cond.code ({ cls := "LogicBist", name := "groupEnd", desc := "(I)I" } : Jvm.MethodName) prog_1_method_36_code (4 : Nat) (Option.some Jvm.ClassFile.FieldType.int), Jvm.Cond.code ({ cls := "LogicBist", name := "lfsrStep", desc := "(I)I" } : Jvm.MethodName) prog_1_method_31_code (4 : Nat) (Option.some Jvm.ClassFile.FieldType.int), Jvm.Cond.code ({ cls := "LogicBist", name := "simulate", desc := "(II)I" } : Jvm.MethodName) prog_1_method_8_code (3 : Nat) (Option.some Jvm.ClassFile.FieldType.int), Jvm.Cond.code ({ cls := "LogicBistOwnLaw", name := "misr", desc := "(IIII)I" } : Jvm.MethodName) method_5_code (6 : Nat) (Option.some Jvm.ClassFile.FieldType.int), Jvm.Cond.code ({ cls := "LogicBistOwnLaw", name := "lfsr", desc := "(I)I" } : Jvm.MethodName) method_4_code (2 : Nat) (Option.some Jvm.ClassFile.FieldType.int), Jvm.Cond.code ({ cls := "LogicBist", name := "groupOfFault", desc := "(I)I" } : Jvm.MethodName) prog_1_method_37_code (2 : Nat) (Option.some Jvm.ClassFile.FieldType.int), Jvm.Cond.code ({ cls := "LogicBist", name := "laneOfFault", desc := "(I)I" } : Jvm.MethodName) prog_1_method_38_code (2 : Nat) (Option.some Jvm.ClassFile.FieldType.int), Jvm.Cond.code ({ cls := "LogicBist", name := "restart", desc := "()V" } : Jvm.MethodName) prog_1_method_7_code (1 : Nat) (Option.none : Option Jvm.ClassFile.FieldType), Jvm.Cond.code ({ cls := "LogicBist", name := "setMisrMask", desc := "(I)Z" } : Jvm.MethodName) prog_1_method_5_code (2 : Nat) (Option.some Jvm.ClassFile.FieldType.boolean)]
set_option maxRecDepth 65536 in
theorem codes_eq : words1.filter isCode = codes1 := rfl
theorem w_codes : ∀ c ∈ words1.filter isCode, c.before args0 about1 = true := by
  rw [codes_eq]
  intro c hc
  simp only [codes1, List.mem_cons, List.not_mem_nil, or_false] at hc
  rcases hc with rfl | rfl | rfl | rfl | rfl | rfl | rfl | rfl | rfl | rfl | rfl | rfl | rfl | rfl | rfl | rfl | rfl | rfl | rfl | rfl | rfl | rfl | rfl | rfl | rfl | rfl | rfl | rfl | rfl | rfl | rfl | rfl | rfl | rfl | rfl | rfl | rfl | rfl | rfl | rfl | rfl | rfl | rfl | rfl | rfl | rfl | rfl | rfl | rfl
  · exact w_c0
  · exact w_c1
  · exact w_c2
  · exact w_c3
  · exact w_c4
  · exact w_c5
  · exact w_c6
  · exact w_c7
  · exact w_c8
  · exact w_c9
  · exact w_c10
  · exact w_c11
  · exact w_c12
  · exact w_c13
  · exact w_c14
  · exact w_c15
  · exact w_c16
  · exact w_c17
  · exact w_c18
  · exact w_c19
  · exact w_c20
  · exact w_c21
  · exact w_c22
  · exact w_c23
  · exact w_c24
  · exact w_c25
  · exact w_c26
  · exact w_c27
  · exact w_c28
  · exact w_c29
  · exact w_c30
  · exact w_c31
  · exact w_c32
  · exact w_c33
  · exact w_c34
  · exact w_c35
  · exact w_c36
  · exact w_c37
  · exact w_c38
  · exact w_c39
  · exact w_c40
  · exact w_c41
  · exact w_c42
  · exact w_c43
  · exact w_c44
  · exact w_c45
  · exact w_c46
  · exact w_c47
  · exact w_c48
set_option maxRecDepth 65536 in
theorem w_t1 : (words1.take 24).all (fun c => isCode c || c.before args0 about1) = true := by decide +kernel
set_option maxRecDepth 65536 in
theorem w_t2 : ((words1.drop 24).take 24).all (fun c => isCode c || c.before args0 about1) = true := by decide +kernel
set_option maxRecDepth 65536 in
theorem w_t3 : (((words1.drop 24).drop 24).take 24).all (fun c => isCode c || c.before args0 about1) = true := by decide +kernel
set_option maxRecDepth 65536 in
theorem w_t4 : ((((words1.drop 24).drop 24).drop 24).take 24).all (fun c => isCode c || c.before args0 about1) = true := by decide +kernel
set_option maxRecDepth 65536 in
theorem w_t5 : (((((words1.drop 24).drop 24).drop 24).drop 24).take 24).all (fun c => isCode c || c.before args0 about1) = true := by decide +kernel
set_option maxRecDepth 65536 in
theorem w_t6 : ((((((words1.drop 24).drop 24).drop 24).drop 24).drop 24).take 24).all (fun c => isCode c || c.before args0 about1) = true := by decide +kernel
set_option maxRecDepth 65536 in
theorem w_t7 : (((((((words1.drop 24).drop 24).drop 24).drop 24).drop 24).drop 24).take 24).all (fun c => isCode c || c.before args0 about1) = true := by decide +kernel
set_option maxRecDepth 65536 in
theorem w_t8 : ((((((((words1.drop 24).drop 24).drop 24).drop 24).drop 24).drop 24).drop 24).take 24).all (fun c => isCode c || c.before args0 about1) = true := by decide +kernel
set_option maxRecDepth 65536 in
theorem w_t9 : (((((((((words1.drop 24).drop 24).drop 24).drop 24).drop 24).drop 24).drop 24).drop 24).take 24).all (fun c => isCode c || c.before args0 about1) = true := by decide +kernel
set_option maxRecDepth 65536 in
theorem w_t10 : ((((((((((words1.drop 24).drop 24).drop 24).drop 24).drop 24).drop 24).drop 24).drop 24).drop 24).take 24).all (fun c => isCode c || c.before args0 about1) = true := by decide +kernel
set_option maxRecDepth 65536 in
theorem w_t11 : ((((((((((words1.drop 24).drop 24).drop 24).drop 24).drop 24).drop 24).drop 24).drop 24).drop 24).drop 24).all (fun c => isCode c || c.before args0 about1) = true := by decide +kernel
theorem w_tables : (allAtoms (Jvm.Cond.code x code maxLocals ret :: tables_1)).before args0 about1 = true := by
  rw [allAtoms_all]
  show words1.all (fun c => c.before args0 about1) = true
  refine all_split ?_ w_codes
  rw [← List.take_append_drop 24 words1, List.all_append, w_t1, ← List.take_append_drop 24 (words1.drop 24), List.all_append, w_t2, ← List.take_append_drop 24 ((words1.drop 24).drop 24), List.all_append, w_t3, ← List.take_append_drop 24 (((words1.drop 24).drop 24).drop 24), List.all_append, w_t4, ← List.take_append_drop 24 ((((words1.drop 24).drop 24).drop 24).drop 24), List.all_append, w_t5, ← List.take_append_drop 24 (((((words1.drop 24).drop 24).drop 24).drop 24).drop 24), List.all_append, w_t6, ← List.take_append_drop 24 ((((((words1.drop 24).drop 24).drop 24).drop 24).drop 24).drop 24), List.all_append, w_t7, ← List.take_append_drop 24 (((((((words1.drop 24).drop 24).drop 24).drop 24).drop 24).drop 24).drop 24), List.all_append, w_t8, ← List.take_append_drop 24 ((((((((words1.drop 24).drop 24).drop 24).drop 24).drop 24).drop 24).drop 24).drop 24), List.all_append, w_t9, ← List.take_append_drop 24 (((((((((words1.drop 24).drop 24).drop 24).drop 24).drop 24).drop 24).drop 24).drop 24).drop 24), List.all_append, w_t10, w_t11]
  rfl
set_option maxRecDepth 65536 in
theorem w_rest : rest_1_c.before args0 about1 = true := by decide +kernel
set_option maxRecDepth 65536 in
theorem w_case : (Jvm.Cond.and given_1 narrow_1).before args0 about1 = true := by decide +kernel
theorem w_applies : (headSpec (Jvm.Cond.code x code maxLocals ret :: tables_1) room_1).applies x e0.platform about1 = true :=
  (Spec.applies_iff w_frames).mpr ⟨w_running, w_runnable, w_alone, w_named, w_hears, w_ripe, w_room, w_tables⟩
theorem atStart : AtStart classFile x code maxLocals ret World_1 tables_1 room_1 Calls_1 rest_1 Pre_1 launch0 p0 e0 about1 theMethod args0 below0 :=
  ⟨lists_1, trivial, launch0.admits_env _ _ _, launch0.least_env, fairChoices_fair.cas, fairChoices_fair.clock, w_frames, w_args, w_heap, w_applies, trivial, w_rest, w_case⟩
end start1
theorem witness_1 : WitnessClaimed_1 := ⟨start1.p0, start1.e0, start1.about1, start1.theMethod, start1.args0, start1.below0, start1.atStart⟩
end Jvm.Pilot.@@N@@
