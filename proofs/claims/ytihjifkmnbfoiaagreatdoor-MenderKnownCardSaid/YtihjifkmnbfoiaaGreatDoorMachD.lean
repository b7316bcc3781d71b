/- the machine once more for the kernel: slots in a tree; paths; states with fewer blocks; the row's end. No condition. -/
import Derived.Test.YtihjifkmnbfoiaaGreatDoorMachC
import Derived.ChangeSame
set_option linter.unusedVariables false
set_option linter.unusedSimpArgs false
namespace Go.AM
/-- sixteen of a kind -/
structure R16 (α : Type) where
  a0 : α
  a1 : α
  a2 : α
  a3 : α
  a4 : α
  a5 : α
  a6 : α
  a7 : α
  a8 : α
  a9 : α
  a10 : α
  a11 : α
  a12 : α
  a13 : α
  a14 : α
  a15 : α
def R16.l {α : Type} (r : R16 α) : List α := [r.a0, r.a1, r.a2, r.a3, r.a4, r.a5, r.a6, r.a7, r.a8, r.a9, r.a10, r.a11, r.a12, r.a13, r.a14, r.a15]
noncomputable section
namespace R16
variable {α β : Type}
def s0 (r : R16 α) : α := R16.rec (motive := fun _ => α) (fun a0 a1 a2 a3 a4 a5 a6 a7 a8 a9 a10 a11 a12 a13 a14 a15 => a0) r
def s1 (r : R16 α) : α := R16.rec (motive := fun _ => α) (fun a0 a1 a2 a3 a4 a5 a6 a7 a8 a9 a10 a11 a12 a13 a14 a15 => a1) r
def s2 (r : R16 α) : α := R16.rec (motive := fun _ => α) (fun a0 a1 a2 a3 a4 a5 a6 a7 a8 a9 a10 a11 a12 a13 a14 a15 => a2) r
def s3 (r : R16 α) : α := R16.rec (motive := fun _ => α) (fun a0 a1 a2 a3 a4 a5 a6 a7 a8 a9 a10 a11 a12 a13 a14 a15 => a3) r
def s4 (r : R16 α) : α := R16.rec (motive := fun _ => α) (fun a0 a1 a2 a3 a4 a5 a6 a7 a8 a9 a10 a11 a12 a13 a14 a15 => a4) r
def s5 (r : R16 α) : α := R16.rec (motive := fun _ => α) (fun a0 a1 a2 a3 a4 a5 a6 a7 a8 a9 a10 a11 a12 a13 a14 a15 => a5) r
def s6 (r : R16 α) : α := R16.rec (motive := fun _ => α) (fun a0 a1 a2 a3 a4 a5 a6 a7 a8 a9 a10 a11 a12 a13 a14 a15 => a6) r
def s7 (r : R16 α) : α := R16.rec (motive := fun _ => α) (fun a0 a1 a2 a3 a4 a5 a6 a7 a8 a9 a10 a11 a12 a13 a14 a15 => a7) r
def s8 (r : R16 α) : α := R16.rec (motive := fun _ => α) (fun a0 a1 a2 a3 a4 a5 a6 a7 a8 a9 a10 a11 a12 a13 a14 a15 => a8) r
def s9 (r : R16 α) : α := R16.rec (motive := fun _ => α) (fun a0 a1 a2 a3 a4 a5 a6 a7 a8 a9 a10 a11 a12 a13 a14 a15 => a9) r
def s10 (r : R16 α) : α := R16.rec (motive := fun _ => α) (fun a0 a1 a2 a3 a4 a5 a6 a7 a8 a9 a10 a11 a12 a13 a14 a15 => a10) r
def s11 (r : R16 α) : α := R16.rec (motive := fun _ => α) (fun a0 a1 a2 a3 a4 a5 a6 a7 a8 a9 a10 a11 a12 a13 a14 a15 => a11) r
def s12 (r : R16 α) : α := R16.rec (motive := fun _ => α) (fun a0 a1 a2 a3 a4 a5 a6 a7 a8 a9 a10 a11 a12 a13 a14 a15 => a12) r
def s13 (r : R16 α) : α := R16.rec (motive := fun _ => α) (fun a0 a1 a2 a3 a4 a5 a6 a7 a8 a9 a10 a11 a12 a13 a14 a15 => a13) r
def s14 (r : R16 α) : α := R16.rec (motive := fun _ => α) (fun a0 a1 a2 a3 a4 a5 a6 a7 a8 a9 a10 a11 a12 a13 a14 a15 => a14) r
def s15 (r : R16 α) : α := R16.rec (motive := fun _ => α) (fun a0 a1 a2 a3 a4 a5 a6 a7 a8 a9 a10 a11 a12 a13 a14 a15 => a15) r
def t0 (k : α → (α → R16 α) → β) (r : R16 α) : β := R16.rec (motive := fun _ => β) (fun a0 a1 a2 a3 a4 a5 a6 a7 a8 a9 a10 a11 a12 a13 a14 a15 => k a0 (fun x => R16.mk x a1 a2 a3 a4 a5 a6 a7 a8 a9 a10 a11 a12 a13 a14 a15)) r
def t1 (k : α → (α → R16 α) → β) (r : R16 α) : β := R16.rec (motive := fun _ => β) (fun a0 a1 a2 a3 a4 a5 a6 a7 a8 a9 a10 a11 a12 a13 a14 a15 => k a1 (fun x => R16.mk a0 x a2 a3 a4 a5 a6 a7 a8 a9 a10 a11 a12 a13 a14 a15)) r
def t2 (k : α → (α → R16 α) → β) (r : R16 α) : β := R16.rec (motive := fun _ => β) (fun a0 a1 a2 a3 a4 a5 a6 a7 a8 a9 a10 a11 a12 a13 a14 a15 => k a2 (fun x => R16.mk a0 a1 x a3 a4 a5 a6 a7 a8 a9 a10 a11 a12 a13 a14 a15)) r
def t3 (k : α → (α → R16 α) → β) (r : R16 α) : β := R16.rec (motive := fun _ => β) (fun a0 a1 a2 a3 a4 a5 a6 a7 a8 a9 a10 a11 a12 a13 a14 a15 => k a3 (fun x => R16.mk a0 a1 a2 x a4 a5 a6 a7 a8 a9 a10 a11 a12 a13 a14 a15)) r
def t4 (k : α → (α → R16 α) → β) (r : R16 α) : β := R16.rec (motive := fun _ => β) (fun a0 a1 a2 a3 a4 a5 a6 a7 a8 a9 a10 a11 a12 a13 a14 a15 => k a4 (fun x => R16.mk a0 a1 a2 a3 x a5 a6 a7 a8 a9 a10 a11 a12 a13 a14 a15)) r
def t5 (k : α → (α → R16 α) → β) (r : R16 α) : β := R16.rec (motive := fun _ => β) (fun a0 a1 a2 a3 a4 a5 a6 a7 a8 a9 a10 a11 a12 a13 a14 a15 => k a5 (fun x => R16.mk a0 a1 a2 a3 a4 x a6 a7 a8 a9 a10 a11 a12 a13 a14 a15)) r
def t6 (k : α → (α → R16 α) → β) (r : R16 α) : β := R16.rec (motive := fun _ => β) (fun a0 a1 a2 a3 a4 a5 a6 a7 a8 a9 a10 a11 a12 a13 a14 a15 => k a6 (fun x => R16.mk a0 a1 a2 a3 a4 a5 x a7 a8 a9 a10 a11 a12 a13 a14 a15)) r
def t7 (k : α → (α → R16 α) → β) (r : R16 α) : β := R16.rec (motive := fun _ => β) (fun a0 a1 a2 a3 a4 a5 a6 a7 a8 a9 a10 a11 a12 a13 a14 a15 => k a7 (fun x => R16.mk a0 a1 a2 a3 a4 a5 a6 x a8 a9 a10 a11 a12 a13 a14 a15)) r
def t8 (k : α → (α → R16 α) → β) (r : R16 α) : β := R16.rec (motive := fun _ => β) (fun a0 a1 a2 a3 a4 a5 a6 a7 a8 a9 a10 a11 a12 a13 a14 a15 => k a8 (fun x => R16.mk a0 a1 a2 a3 a4 a5 a6 a7 x a9 a10 a11 a12 a13 a14 a15)) r
def t9 (k : α → (α → R16 α) → β) (r : R16 α) : β := R16.rec (motive := fun _ => β) (fun a0 a1 a2 a3 a4 a5 a6 a7 a8 a9 a10 a11 a12 a13 a14 a15 => k a9 (fun x => R16.mk a0 a1 a2 a3 a4 a5 a6 a7 a8 x a10 a11 a12 a13 a14 a15)) r
def t10 (k : α → (α → R16 α) → β) (r : R16 α) : β := R16.rec (motive := fun _ => β) (fun a0 a1 a2 a3 a4 a5 a6 a7 a8 a9 a10 a11 a12 a13 a14 a15 => k a10 (fun x => R16.mk a0 a1 a2 a3 a4 a5 a6 a7 a8 a9 x a11 a12 a13 a14 a15)) r
def t11 (k : α → (α → R16 α) → β) (r : R16 α) : β := R16.rec (motive := fun _ => β) (fun a0 a1 a2 a3 a4 a5 a6 a7 a8 a9 a10 a11 a12 a13 a14 a15 => k a11 (fun x => R16.mk a0 a1 a2 a3 a4 a5 a6 a7 a8 a9 a10 x a12 a13 a14 a15)) r
def t12 (k : α → (α → R16 α) → β) (r : R16 α) : β := R16.rec (motive := fun _ => β) (fun a0 a1 a2 a3 a4 a5 a6 a7 a8 a9 a10 a11 a12 a13 a14 a15 => k a12 (fun x => R16.mk a0 a1 a2 a3 a4 a5 a6 a7 a8 a9 a10 a11 x a13 a14 a15)) r
def t13 (k : α → (α → R16 α) → β) (r : R16 α) : β := R16.rec (motive := fun _ => β) (fun a0 a1 a2 a3 a4 a5 a6 a7 a8 a9 a10 a11 a12 a13 a14 a15 => k a13 (fun x => R16.mk a0 a1 a2 a3 a4 a5 a6 a7 a8 a9 a10 a11 a12 x a14 a15)) r
def t14 (k : α → (α → R16 α) → β) (r : R16 α) : β := R16.rec (motive := fun _ => β) (fun a0 a1 a2 a3 a4 a5 a6 a7 a8 a9 a10 a11 a12 a13 a14 a15 => k a14 (fun x => R16.mk a0 a1 a2 a3 a4 a5 a6 a7 a8 a9 a10 a11 a12 a13 x a15)) r
def t15 (k : α → (α → R16 α) → β) (r : R16 α) : β := R16.rec (motive := fun _ => β) (fun a0 a1 a2 a3 a4 a5 a6 a7 a8 a9 a10 a11 a12 a13 a14 a15 => k a15 (fun x => R16.mk a0 a1 a2 a3 a4 a5 a6 a7 a8 a9 a10 a11 a12 a13 a14 x)) r
def ss : List (R16 α → α) := [s0, s1, s2, s3, s4, s5, s6, s7, s8, s9, s10, s11, s12, s13, s14, s15]
def tt : List ((α → (α → R16 α) → β) → R16 α → β) := [t0, t1, t2, t3, t4, t5, t6, t7, t8, t9, t10, t11, t12, t13, t14, t15]
def rep (v : α) : R16 α := ⟨v, v, v, v, v, v, v, v, v, v, v, v, v, v, v, v⟩
theorem l_length (r : R16 α) : r.l.length = 16 := rfl
theorem ss_spec {i : Nat} {s : R16 α → α} (h : ss[i]? = some s) (r : R16 α) : r.l[i]? = some (s r) := by
  have hi : i < 16 := (List.getElem?_eq_some_iff.1 h).1
  rcases r with ⟨a0, a1, a2, a3, a4, a5, a6, a7, a8, a9, a10, a11, a12, a13, a14, a15⟩
  match i, hi with
  | 0, _ => cases h; rfl
  | 1, _ => cases h; rfl
  | 2, _ => cases h; rfl
  | 3, _ => cases h; rfl
  | 4, _ => cases h; rfl
  | 5, _ => cases h; rfl
  | 6, _ => cases h; rfl
  | 7, _ => cases h; rfl
  | 8, _ => cases h; rfl
  | 9, _ => cases h; rfl
  | 10, _ => cases h; rfl
  | 11, _ => cases h; rfl
  | 12, _ => cases h; rfl
  | 13, _ => cases h; rfl
  | 14, _ => cases h; rfl
  | 15, _ => cases h; rfl
  | n + 16, hi => omega
theorem ss_none {i : Nat} (h : (ss (α := α))[i]? = none) : 16 ≤ i := by simpa [ss] using h
theorem tt_spec {i : Nat} {t : (α → (α → R16 α) → β) → R16 α → β} (h : tt[i]? = some t) (k : α → (α → R16 α) → β) (r : R16 α) : ∃ a p, t k r = k a p ∧ r.l[i]? = some a ∧ ∀ x, (p x).l = r.l.set i x := by
  have hi : i < 16 := (List.getElem?_eq_some_iff.1 h).1
  rcases r with ⟨a0, a1, a2, a3, a4, a5, a6, a7, a8, a9, a10, a11, a12, a13, a14, a15⟩
  match i, hi with
  | 0, _ => cases h; exact ⟨_, _, rfl, rfl, fun _ => rfl⟩
  | 1, _ => cases h; exact ⟨_, _, rfl, rfl, fun _ => rfl⟩
  | 2, _ => cases h; exact ⟨_, _, rfl, rfl, fun _ => rfl⟩
  | 3, _ => cases h; exact ⟨_, _, rfl, rfl, fun _ => rfl⟩
  | 4, _ => cases h; exact ⟨_, _, rfl, rfl, fun _ => rfl⟩
  | 5, _ => cases h; exact ⟨_, _, rfl, rfl, fun _ => rfl⟩
  | 6, _ => cases h; exact ⟨_, _, rfl, rfl, fun _ => rfl⟩
  | 7, _ => cases h; exact ⟨_, _, rfl, rfl, fun _ => rfl⟩
  | 8, _ => cases h; exact ⟨_, _, rfl, rfl, fun _ => rfl⟩
  | 9, _ => cases h; exact ⟨_, _, rfl, rfl, fun _ => rfl⟩
  | 10, _ => cases h; exact ⟨_, _, rfl, rfl, fun _ => rfl⟩
  | 11, _ => cases h; exact ⟨_, _, rfl, rfl, fun _ => rfl⟩
  | 12, _ => cases h; exact ⟨_, _, rfl, rfl, fun _ => rfl⟩
  | 13, _ => cases h; exact ⟨_, _, rfl, rfl, fun _ => rfl⟩
  | 14, _ => cases h; exact ⟨_, _, rfl, rfl, fun _ => rfl⟩
  | 15, _ => cases h; exact ⟨_, _, rfl, rfl, fun _ => rfl⟩
  | n + 16, hi => omega
theorem tt_none {i : Nat} (h : (tt (α := α) (β := β))[i]? = none) : 16 ≤ i := by simpa [tt] using h
theorem rep_l (v : α) : (rep v).l = List.replicate 16 v := rfl
end R16

/-! ### slots -/
abbrev Tm := R16 (R16 AV)
def Tm.all (m : Tm) : List AV := (m.l.map R16.l).flatten
/-- the first n -/
def Tm.upto (n : Nat) (m : Tm) : List AV := m.all.take n
def acc (t : Nat) : Option (Tm → AV) :=
  Option.rec (motive := fun _ => Option (Tm → AV)) none (fun a => Option.rec (motive := fun _ => Option (Tm → AV)) none (fun b => some (fun m => b (a m))) (getN (R16.ss (α := AV)) (Nat.mod t 16))) (getN (R16.ss (α := R16 AV)) (Nat.div t 16))
def stt (t : Nat) : Option (AV → Tm → Tm) :=
  Option.rec (motive := fun _ => Option (AV → Tm → Tm)) none (fun a => Option.rec (motive := fun _ => Option (AV → Tm → Tm)) none (fun b => some (fun v m => a (fun row put => b (fun _ put2 => put (put2 v)) row) m)) (getN (R16.tt (α := AV) (β := Tm)) (Nat.mod t 16))) (getN (R16.tt (α := R16 AV) (β := Tm)) (Nat.div t 16))
/-- slot t of n -/
def accG (t n : Nat) : Option (Tm → AV) := Bool.rec (motive := fun _ => Option (Tm → AV)) none (acc t) (Nat.ble (Nat.succ t) n)
def sttG (t n : Nat) : Option (AV → Tm → Tm) := Bool.rec (motive := fun _ => Option (AV → Tm → Tm)) none (stt t) (Nat.ble (Nat.succ t) n)
def get2 (n : Nat) (m : Tm) (t : Nat) : AV := Option.rec (motive := fun _ => AV) undef (fun a => a m) (accG t n)
def set2 (n : Nat) (m : Tm) (t : Nat) (v : AV) : Tm := Option.rec (motive := fun _ => Tm) m (fun s => s v m) (sttG t n)
def put2 (n : Nat) (m : Tm) (d : Option Nat) (v : AV) : Tm := Option.rec (motive := fun _ => Tm) m (fun t => set2 n m t v) d
def tm0 : Tm := R16.rep (R16.rep undef)
end
theorem flat_get {α : Type} {L : List (List α)} (h : ∀ l ∈ L, l.length = 16) (t : Nat) : L.flatten[t]? = L[t / 16]?.bind fun l => l[t % 16]? := by
  induction L generalizing t with
  | nil => simp
  | cons l L ih =>
    have hl : l.length = 16 := h l (by simp)
    rw [List.flatten_cons]
    by_cases ht : t < 16
    · rw [List.getElem?_append_left (by omega)]
      have h1 : t / 16 = 0 := by omega
      have h2 : t % 16 = t := by omega
      simp [h1, h2]
    · rw [List.getElem?_append_right (by omega), hl, ih (fun l hl => h l (by simp [hl]))]
      have h1 : t / 16 = (t - 16) / 16 + 1 := by omega
      have h2 : t % 16 = (t - 16) % 16 := by omega
      rw [h1, h2]; simp
theorem rows_len (m : Tm) : ∀ l ∈ m.l.map R16.l, l.length = 16 := by
  intro l hl
  obtain ⟨r, _, rfl⟩ := List.mem_map.1 hl
  rfl
theorem flat_len {α : Type} : ∀ {L : List (List α)}, (∀ l ∈ L, l.length = 16) → L.flatten.length = 16 * L.length
  | [], _ => rfl
  | l :: L, h => by rw [List.flatten_cons, List.length_append, flat_len (fun l hl => h l (by simp [hl])), h l (by simp), List.length_cons]; omega
theorem all_len (m : Tm) : m.all.length = 256 := by
  unfold Tm.all
  rw [flat_len (rows_len m), List.length_map, R16.l_length]
theorem all_get (m : Tm) (t : Nat) : m.all[t]? = m.l[t / 16]?.bind fun r => r.l[t % 16]? := by
  unfold Tm.all
  rw [flat_get (rows_len m), List.getElem?_map]
  cases m.l[t / 16]? <;> rfl
theorem upto_get (n : Nat) (m : Tm) (t : Nat) : (getN (m.upto n) t).getD undef = get2 n m t := by
  rw [getN_eq]
  unfold Tm.upto get2 accG
  rw [List.getElem?_take]
  by_cases ht : t < n
  · rw [if_pos ht]
    have hb : Nat.ble (Nat.succ t) n = true := Nat.ble_eq_true_of_le ht
    rw [hb, all_get]
    show _ = Option.rec (motive := fun _ => AV) undef (fun a => a m) (acc t)
    unfold acc
    rw [getN_eq, getN_eq]
    show _ = Option.rec (motive := fun _ => AV) undef (fun a => a m) (Option.rec (motive := fun _ => Option (Tm → AV)) none (fun a => Option.rec (motive := fun _ => Option (Tm → AV)) none (fun b => some (fun m => b (a m))) (R16.ss (α := AV))[t % 16]?) (R16.ss (α := R16 AV))[t / 16]?)
    cases h1 : (R16.ss (α := R16 AV))[t / 16]? with
    | none =>
      have := R16.ss_none h1
      rw [List.getElem?_eq_none (by rw [R16.l_length]; exact this)]; rfl
    | some a =>
      rw [R16.ss_spec h1 m]
      simp only [Option.bind_some]
      cases h2 : (R16.ss (α := AV))[t % 16]? with
      | none => have := R16.ss_none h2; omega
      | some b => rw [R16.ss_spec h2]; rfl
  · rw [if_neg ht]
    have hb : Nat.ble (Nat.succ t) n = false := by
      cases hh : Nat.ble (Nat.succ t) n with
      | false => rfl
      | true => exact absurd (Nat.le_of_ble_eq_true hh) ht
    rw [hb]; rfl
theorem all_set {m m' : Tm} {i j : Nat} {r r' : R16 AV} {v : AV} (hj : j < 16) (hr : m.l[i]? = some r) (h1 : m'.l = m.l.set i r') (h2 : r'.l = r.l.set j v) : m'.all = m.all.set (16 * i + j) v := by
  have hi : i < 16 := (List.getElem?_eq_some_iff.1 hr).1
  apply List.ext_getElem?
  intro t
  rw [all_get, h1, List.getElem?_set, List.getElem?_set, all_get, all_len]
  by_cases hti : i = t / 16
  · rw [if_pos hti, if_pos (by rw [R16.l_length]; omega), ← hti, hr]
    simp only [Option.bind_some]
    rw [h2, List.getElem?_set]
    by_cases htj : j = t % 16
    · rw [if_pos htj, if_pos (by rw [R16.l_length]; omega), if_pos (by omega), if_pos (by omega)]
    · rw [if_neg htj, if_neg (by omega)]
  · rw [if_neg hti, if_neg (by omega)]
theorem upto_set (n : Nat) (m : Tm) (t : Nat) (v : AV) : setN v (m.upto n) t = (set2 n m t v).upto n := by
  rw [setN_eq]
  unfold Tm.upto set2 sttG
  by_cases ht : t < n
  · have hb : Nat.ble (Nat.succ t) n = true := Nat.ble_eq_true_of_le ht
    rw [hb]
    show _ = (Option.rec (motive := fun _ => Tm) m (fun s => s v m) (stt t) : Tm).all.take n
    unfold stt
    rw [getN_eq, getN_eq]
    show _ = (Option.rec (motive := fun _ => Tm) m (fun s => s v m) (Option.rec (motive := fun _ => Option (AV → Tm → Tm)) none (fun a => Option.rec (motive := fun _ => Option (AV → Tm → Tm)) none (fun b => some (fun v m => a (fun row put => b (fun _ put2 => put (put2 v)) row) m)) (R16.tt (α := AV) (β := Tm))[t % 16]?) (R16.tt (α := R16 AV) (β := Tm))[t / 16]?) : Tm).all.take n
    cases h1 : (R16.tt (α := R16 AV) (β := Tm))[t / 16]? with
    | none =>
      have := R16.tt_none h1
      rw [List.set_eq_of_length_le (by rw [List.length_take, all_len]; omega)]
    | some a =>
      cases h2 : (R16.tt (α := AV) (β := Tm))[t % 16]? with
      | none => have := R16.tt_none h2; omega
      | some b =>
        obtain ⟨row, put, q1, q2, q3⟩ := R16.tt_spec h1 (fun row put => b (fun _ put2 => put (put2 v)) row) m
        obtain ⟨x, put2, p1, p2, p3⟩ := R16.tt_spec h2 (fun _ put2 => put (put2 v)) row
        show _ = (a (fun row put => b (fun _ put2 => put (put2 v)) row) m).all.take n
        rw [q1, p1, all_set (Nat.mod_lt t (by omega)) q2 (q3 _) (p3 v)]
        have : 16 * (t / 16) + t % 16 = t := by omega
        rw [this]
        apply List.ext_getElem?
        intro s
        rw [List.getElem?_set, List.getElem?_take, List.getElem?_take, List.getElem?_set, List.length_take]
        by_cases hts : t = s
        · subst hts; rw [if_pos rfl, if_pos rfl, if_pos ht, all_len]
          by_cases h256 : t < 256
          · rw [if_pos (by omega), if_pos h256]
          · rw [if_neg (by omega), if_neg h256]
        · rw [if_neg hts, if_neg hts]
  · have hb : Nat.ble (Nat.succ t) n = false := by
      cases hh : Nat.ble (Nat.succ t) n with
      | false => rfl
      | true => exact absurd (Nat.le_of_ble_eq_true hh) ht
    rw [hb, List.set_eq_of_length_le (by rw [List.length_take]; omega)]
theorem upto_put (n : Nat) (m : Tm) (d : Option Nat) (v : AV) : putA (m.upto n) d v = (put2 n m d v).upto n := by
  cases d with
  | none => rfl
  | some t => exact upto_set n m t v
end Go.AM

namespace Go.AM

/-! ### the machine once more, for the kernel: slots in a tree, every choice by closed terms -/
structure Fr where
  fn : Nat
  nt : Nat
  tm : Tm
  todo : List AItem
  defers : List ADef
  mode : AMode
  kind : CallKind
  round : Option Nm
structure Ctx where
  fn : Nat
  defers : List ADef
  kind : CallKind
  round : Option Nm
  rest : List Fr
inductive Cf where
  | run (x : Ctx) (nt : Nat) (tm : Tm) (todo : List AItem) (h : Heap) (nx : Nm)
  | out (x : Ctx) (nt : Nat) (tm : Tm) (todo : List AItem) (m : AMode) (h : Heap) (nx : Nm)

noncomputable section
def env2 (n : Nat) (m : Tm) : Env := fun t => some (get2 n m t)
/-- an operand's accessor -/
def opdTmp (t : Nat) (n : Nat) : Option (Tm → AV) := Option.rec (motive := fun _ => Option (Tm → AV)) (some fun _ => undef) (fun a => some a) (accG t n)
def opdCon (c : Value) (n : Nat) : Option (Tm → AV) := Option.rec (motive := fun _ => Option (Tm → AV)) none (fun v => some fun _ => v) (ofConst c)
def opdNo (g : Nat) (n : Nat) : Option (Tm → AV) := none
def opdFun (f : Nat) (n : Nat) : Option (Tm → AV) := some fun _ => .func (.func f) [] []
def opd (x : Operand) (n : Nat) : Option (Tm → AV) := Operand.rec (motive := fun _ => Nat → Option (Tm → AV)) opdTmp opdCon opdNo opdFun x n
abbrev XK := Tm → Heap → Nm → Option ARes
def val2 (v : AV) (h : Heap) (nx : Nm) : Option ARes := some (.val v h nx)
def resK (v : Option AV) (h : Heap) (nx : Nm) : Option ARes := Option.rec (motive := fun _ => Heap → Nm → Option ARes) (fun _ _ => none) val2 v h nx
/-! operations -/
def k1 (a : Option (Tm → AV)) (f : AV → Heap → Nm → Option ARes) : Option XK := Option.rec (motive := fun _ => Option XK) none (fun a => some fun m h nx => f (a m) h nx) a
def k2 (a b : Option (Tm → AV)) (f : AV → AV → Heap → Nm → Option ARes) : Option XK :=
  Option.rec (motive := fun _ => Option XK) none (fun a => Option.rec (motive := fun _ => Option XK) none (fun b => some fun m h nx => f (a m) (b m) h nx) b) a
def kSlow (o : Op) (T : Tab) (n : Nat) : Option XK := some fun m h nx => execA T (env2 n m) h nx o
def kMove (x : Operand) (T : Tab) (n : Nat) : Option XK := k1 (opd x n) val2
/-! load -/
def ld1 (b : Nm) (off : Nat) (h : Heap) (nx : Nm) : Option ARes := resK (loadCell h b off) h nx
def ldPtr1 (b : Nm) (off : Nat) (h : Heap) (nx : Nm) : Option ARes := resK (loadCell h b off) h nx
def aggK (cs : Option (List AV)) (h : Heap) (nx : Nm) : Option ARes := Option.rec (motive := fun _ => Heap → Nm → Option ARes) (fun _ _ => none) (fun cs h nx => some (.val (.agg cs) h nx)) cs h nx
/-- by a pointer alone -/
def onPtr {γ : Type} (f : Nm → Nat → Heap → Nm → Option γ) (v : AV) (h : Heap) (nx : Nm) : Option γ :=
  AV.rec (motive_1 := fun _ => Heap → Nm → Option γ) (motive_2 := fun _ => Unit)
    (fun _ _ => none) (fun _ _ _ => none) (fun _ _ _ _ => none) (fun _ _ _ _ => none) (fun _ _ _ => none) (fun _ _ => none) f (fun _ _ => none) (fun _ _ _ _ _ _ => none) (fun _ _ _ _ _ _ => none) (fun _ _ _ => none) (fun _ _ => none) (fun _ _ _ => none)
    (fun _ _ _ _ _ _ _ => none) (fun _ _ _ => none) (fun _ _ => none) (fun _ _ _ _ _ => none) (fun _ _ => none) (fun _ _ _ _ => none) (fun _ _ _ _ => none) () (fun _ _ _ _ => ()) v h nx
def ldAgg (size : Nat) (b : Nm) (off : Nat) (h : Heap) (nx : Nm) : Option ARes := aggK (loadCells h b off size) h nx
def kLoadT (ti : TI) (a : Option (Tm → AV)) : Option XK :=
  TI.rec (motive := fun _ => Option (Tm → AV) → Option XK) (fun _ size _ _ isAgg _ a => k1 a (Bool.rec (motive := fun _ => AV → Heap → Nm → Option ARes) (onPtr ldPtr1) (onPtr (ldAgg size)) isAgg)) ti a
def kLoad (t : TypeId) (x : Operand) (T : Tab) (n : Nat) : Option XK := Option.rec (motive := fun _ => Option (Tm → AV) → Option XK) (fun _ => none) kLoadT (T.ty t) (opd x n)
def kStore (t : TypeId) (a x : Operand) (T : Tab) (n : Nat) : Option XK := k2 (opd a n) (opd x n) fun a x h nx => opStore T h nx t a x
def kNil (x : Operand) (T : Tab) (n : Nat) : Option XK := k1 (opd x n) fun v h nx => resK (opNil v) h nx
/-! '+' and its like -/
def biOk (k : IntKind) (f : Int → Int → AV) (a b : Int) (h : Heap) (nx : Nm) : Option ARes := some (.val (f a b) h nx)
/-- an operation of two integers of one kind, told beforehand -/
def biF (op : BinOp) (k : IntKind) : Option (Int → Int → AV) :=
  BinOp.rec (motive := fun _ => IntKind → Option (Int → Int → AV))
    (fun k => some fun a b => .int k (wrapA k (Int.add a b))) (fun k => some fun a b => .int k (wrapA k (Int.sub a b))) (fun k => some fun a b => .int k (wrapA k (Int.mul a b)))
    (fun _ => none) (fun _ => none) (fun _ => none) (fun _ => none) (fun _ => none) (fun _ => none) (fun _ => none) (fun _ => none)
    (fun k => some fun a b => .bool (eqI a b)) (fun k => some fun a b => .bool (!eqI a b)) (fun k => some fun a b => .bool (ltI a b)) (fun k => some fun a b => .bool (!ltI b a)) (fun k => some fun a b => .bool (ltI b a)) (fun k => some fun a b => .bool (!ltI a b))
    op k
/-- both are integers: with what is told of the kinds; else 'no' -/
def biK (op : BinOp) (k k' : IntKind) : Option (Int → Int → AV) := Bool.rec (motive := fun _ => Option (Int → Int → AV)) none (biF op k) (sameK k k')
def biRun (f : Option (Int → Int → AV)) (a b : Int) (no : Option ARes) (h : Heap) (nx : Nm) : Option ARes :=
  Option.rec (motive := fun _ => Int → Int → Option ARes → Heap → Nm → Option ARes) (fun _ _ no _ _ => no) (fun f a b _ h nx => some (.val (f a b) h nx)) f a b no h nx
/-- is it an integer? -/
def onInt {γ : Type} (f : IntKind → Int → γ → γ) (v : AV) (no : γ) : γ :=
  AV.rec (motive_1 := fun _ => γ → γ) (motive_2 := fun _ => Unit)
    (fun no => no) (fun _ no => no) f (fun _ _ no => no) (fun _ no => no) (fun no => no) (fun _ _ no => no) (fun no => no) (fun _ _ _ _ no => no) (fun _ _ _ _ no => no) (fun _ no => no) (fun no => no) (fun _ no => no)
    (fun _ _ _ _ _ no => no) (fun _ no => no) (fun no => no) (fun _ _ _ no => no) (fun no => no) (fun _ _ no => no) (fun _ _ no => no) () (fun _ _ _ _ => ()) v no
def bi2 (op : BinOp) (h : Heap) (nx : Nm) (y : AV) (k : IntKind) (a : Int) (no : Option ARes) : Option ARes :=
  onInt (fun k' b no => biRun (biK op k k') a b no h nx) y no
def binG (T : Tab) (op : BinOp) (t : TypeId) (x y : AV) (h : Heap) (nx : Nm) : Option ARes := resK (binA T op t x y) h nx
def bin2 (T : Tab) (op : BinOp) (t : TypeId) (x y : AV) (h : Heap) (nx : Nm) : Option ARes := onInt (bi2 op h nx y) x (binG T op t x y h nx)
def kBin (op : BinOp) (t : TypeId) (x y : Operand) (t' : TypeId) (T : Tab) (n : Nat) : Option XK := k2 (opd x n) (opd y n) (bin2 T op t)
def kField (s : TypeId) (x : Operand) (f : Nat) (T : Tab) (n : Nat) : Option XK := k1 (opd x n) fun v h nx => resK (opField T s f v) h nx
/-! the address of a field: its place is told beforehand -/
def fldOff (fs : List (Nat × Nat × TypeId)) (f : Nat) : Option Nat := match getN fs f with
  | some (o, c, _) => (match isZ c with | true => none | false => some o)
  | none => none
def fldT (T : Tab) (s : TypeId) (f : Nat) : Option Nat := match T.ty s with
  | some ti => (match ti.d with | .struct fs => fldOff fs f | _ => none)
  | none => none
def fldPtr (o : Nat) (b : Nm) (off : Nat) (h : Heap) (nx : Nm) : Option ARes := some (.val (.ptr b (Nat.add off o)) h nx)
def kFieldAddr (s : TypeId) (x : Operand) (f : Nat) (T : Tab) (n : Nat) : Option XK := Option.rec (motive := fun _ => Option (Tm → AV) → Option XK) (fun _ => none) (fun o a => k1 a (onPtr (fldPtr o))) (fldT T s f) (opd x n)
def kExtract (x : Operand) (i : Nat) (T : Tab) (n : Nat) : Option XK := k1 (opd x n) fun v h nx => resK (opExtract v i) h nx
def kIndexAddr (t : TypeId) (x i : Operand) (T : Tab) (n : Nat) : Option XK := k2 (opd x n) (opd i n) fun a i h nx => resK ((natOf i).bind (opIndexAddr T t a)) h nx
def kIndex (t : TypeId) (x i : Operand) (T : Tab) (n : Nat) : Option XK := k2 (opd x n) (opd i n) fun a i h nx => resK ((natOf i).bind (opIndex T t a)) h nx
def kConvert (s d : TypeId) (x : Operand) (T : Tab) (n : Nat) : Option XK := k1 (opd x n) fun v h nx => opConvert T h nx s d v
/-! calls: the arguments' accessors beforehand -/
def opds (l : List Operand) (n : Nat) : Option (List (Tm → AV)) :=
  List.rec (motive := fun _ => Option (List (Tm → AV))) (some []) (fun x _ ih => Option.rec (motive := fun _ => Option (List (Tm → AV))) none (fun a => Option.rec (motive := fun _ => Option (List (Tm → AV))) none (fun l => some (a :: l)) ih) (opd x n)) l
def mapT (l : List (Tm → AV)) (m : Tm) : List AV := List.rec (motive := fun _ => List AV) [] (fun a _ ih => a m :: ih) l
def kCallV (f : Option (Tm → AV)) (as : Option (List (Tm → AV))) (T : Tab) : Option XK :=
  Option.rec (motive := fun _ => Option XK) none (fun f => Option.rec (motive := fun _ => Option XK) none (fun as => some fun m h nx => callA T h nx (f m) (mapT as m)) as) f
def kCallB (b : Builtin) (ts : List TypeId) (as : Option (List (Tm → AV))) (T : Tab) : Option XK :=
  Option.rec (motive := fun _ => Option XK) none (fun as => some fun m h nx => builtinA T h nx b ts (mapT as m)) as
/-- a function that is named -/
def kEnter (f : Nat) (T : Tab) : Option (Option Bool) := match T.fn f with
  | some fn => (match fn.body with
    | some _ => some (some true)
    | none => some none)
  | none => none
def kCallF (f : Nat) (as : Option (List (Tm → AV))) (T : Tab) : Option XK :=
  Option.rec (motive := fun _ => Option (List (Tm → AV)) → Option XK) (fun _ => none)
    (fun e as => Option.rec (motive := fun _ => Option (List (Tm → AV)) → Option XK) (fun as => kCallV (some fun _ => .func (.func f) [] []) as T)
      (fun _ as => Option.rec (motive := fun _ => Option XK) none (fun as => some fun m h nx => some (.enter f (mapT as m))) as) e as) (kEnter f T) as
def kCallO (f : Operand) (as : Option (List (Tm → AV))) (T : Tab) (n : Nat) : Option XK :=
  Operand.rec (motive := fun _ => Option (List (Tm → AV)) → Tab → Nat → Option XK) (fun t as T n => kCallV (opd (.tmp t) n) as T) (fun c as T n => kCallV (opd (.const c) n) as T) (fun _ _ _ _ => none) (fun f as T _ => kCallF f as T) f as T n
def kCall (c : Call) (T : Tab) (n : Nat) : Option XK :=
  Call.rec (motive := fun _ => Tab → Nat → Option XK) (fun callee args ts T n =>
    Callee.rec (motive := fun _ => Option (List (Tm → AV)) → List TypeId → Tab → Nat → Option XK) (fun f as _ T n => kCallO f as T n) (fun _ _ _ _ _ _ => none) (fun b as ts T _ => kCallB b ts as T) callee (opds args.toList n) ts.toList T n) c T n
def kSlice (t : TypeId) (x : Operand) (lo hi mx : Option Operand) (T : Tab) (n : Nat) : Option XK := kSlow (.slice t x lo hi mx) T n
/-- an operation, digested -/
def opK (o : Op) (T : Tab) (n : Nat) : Option XK :=
  Op.rec (motive := fun _ => Tab → Nat → Option XK)
    kMove kMove (fun c a b => kSlow (.pick c a b)) (fun t => kSlow (.alloc t)) (fun t x => kSlow (.box t x)) (fun t ps => kSlow (.build t ps)) (fun t l ps => kSlow (.buildSlice t l ps)) (fun t m k x => kSlow (.insert t m k x))
    kLoad kStore (fun _ _ _ => none) (fun _ _ _ => none) kNil kBin (fun op t x => kSlow (.unOp op t x)) kConvert (fun t x => kSlow (.sliceToArrayPointer t x)) (fun t x => kSlow (.makeInterface t x)) (fun f a b => kSlow (.makeFunc f a b))
    (fun t r => kSlow (.makeMap t r)) (fun _ _ _ _ => none) (fun t l c => kSlow (.makeSlice t l c)) kSlice kFieldAddr kField kIndexAddr kIndex (fun t x i ok => kSlow (.lookup t x i ok)) (fun t m k x => kSlow (.mapUpdate t m k x))
    (fun t m k => kSlow (.mapEntry t m k)) (fun t m s x => kSlow (.entryStore t m s x)) (fun t x => kSlow (.range t x)) (fun i s => kSlow (.next i s)) (fun i => kSlow (.entry i)) (fun x t a ok => kSlow (.typeAssert x t a ok)) kExtract kCall
    (fun _ _ _ => none) (fun c => kSlow (.defer c)) (fun x => kSlow (.panic x)) (fun _ _ _ _ => none) (fun _ _ _ _ _ => none) (fun _ _ _ _ => none) o T n
/-- an operation without a guard, and what puts its result -/
def dstK (d : Option Nat) (n : Nat) : Option (AV → Tm → Tm) := Option.rec (motive := fun _ => Nat → Option (AV → Tm → Tm)) (fun _ => none) (fun t n => sttG t n) d n
structure Dig where
  x : XK
  p : Option (AV → Tm → Tm)
def digO (x : Option XK) (p : Option (AV → Tm → Tm)) : Option Dig := Option.rec (motive := fun _ => Option Dig) none (fun x => some ⟨x, p⟩) x
def dig (o : Oper) (T : Tab) (n : Nat) : Option Dig :=
  Oper.rec (motive := fun _ => Tab → Nat → Option Dig) (fun dst op _ _ _ g T n => Option.rec (motive := fun _ => Option Dig) (digO (opK op T n) (dstK dst n)) (fun _ => none) g) o T n
def putK (p : Option (AV → Tm → Tm)) (v : AV) (m : Tm) : Tm := Option.rec (motive := fun _ => AV → Tm → Tm) (fun _ m => m) (fun p => p) p v m

/-! ### frames -/
def setU (t : Nat) (v : AV) (m : Tm) : Tm := Option.rec (motive := fun _ => Tm) m (fun s => s v m) (stt t)
def fill (l : List AV) (i : Nat) (m : Tm) : Tm := List.rec (motive := fun _ => Nat → Tm → Tm) (fun _ m => m) (fun v _ ih i m => ih (Nat.succ i) (setU i v m)) l i m
def enter2 (T : Tab) (f : Nat) (args : List AV) (kind : CallKind) : Option Fr :=
  match T.fn f with
  | some fn => (match fn with
    | ⟨_, body, nt, _⟩ => (match body with
      | some body => (match Nat.ble nt 256 && Nat.ble (lenL args) nt with
        | true => some ⟨f, nt, fill args 0 tm0, [.code body], [], .run, kind, none⟩
        | false => none)
      | none => none))
  | none => none
def finish2 (T : Tab) (nt : Nat) (tm : Tm) (todo : List AItem) (v : AV) (h : Heap) (nx : Nm) : Option (Tm × List AItem) :=
  match todo with
  | [] => none
  | i :: k => (match i with
    | .inRegion ops l => (match l with
      | o :: l => some (putK (dstK o.dst nt) v tm, .inRegion ops l :: k)
      | [] => none)
    | .drawn ops bf V w => (match w with
      | some e => (match allB (recheck1 T ops.toList bf (tm.upto nt) (setN (.done v) V e) h nx ((getN bf e).getD 0)) (List.range (lenL ops.toList)) with
        | true => some (tm, .drawn ops bf (setN (.done v) V e) none :: k)
        | false => none)
      | none => none)
    | .inRange n => some (tm, .endRange n :: k)
    | _ => none)
def valTo (x : Ctx) (nt : Nat) (h : Heap) (nx : Nm) (r : Option (Tm × List AItem)) : Option Cf :=
  match r with
  | some p => (match p with | ⟨tm, todo⟩ => some (.run x nt tm todo h nx))
  | none => none
def return2 (T : Tab) (rest : List Fr) (kind : CallKind) (v : AV) (h : Heap) (nx : Nm) : Option Cf :=
  match rest with
  | [] => none
  | c :: rest => (match c with
    | ⟨fn, nt, tm, todo, defers, mode, k, round⟩ => (match kind with
      | .normal => (match mode with
        | .run => valTo ⟨fn, defers, k, round, rest⟩ nt h nx (finish2 T nt tm todo v h nx)
        | _ => none)
      | .deferred => (match mode with
        | .run => none
        | m => some (.out ⟨fn, defers, k, round, rest⟩ nt tm todo (settleA m) h nx))
      | _ => none))
def results2 (T : Tab) (h : Heap) (nt : Nat) (tm : Tm) : List ResultVar → Option (List AV)
  | [] => some []
  | x :: l => (match x with
    | .tmp t => (results2 T h nt tm l).map (get2 nt tm t :: ·)
    | .cell a t => (match loadA T h t (get2 nt tm a) with
      | some v => (results2 T h nt tm l).map (v :: ·)
      | none => none))
def leaveLoop2 (T : Tab) (rest : List Fr) (h : Heap) (nx : Nm) (kind : CallKind) (n : Nm) (jump : Option Code) : Option Cf :=
  match h.get n with
  | some (.loop _ _ fn tmps params assign body d) => (match jump with
    | none => return2 T rest kind (.bool true) (h.set (some (.loop .ready none fn tmps params assign body d)) n) nx
    | some j => return2 T rest kind (.bool false) (h.set (some (.loop .done (some j) fn tmps params assign body d)) n) nx)
  | _ => none
def leave2 (T : Tab) (x : Ctx) (nt : Nat) (tm : Tm) (todo : List AItem) (h : Heap) (nx : Nm) (jump : Option Code) : Option Cf :=
  match x with
  | ⟨fn, defers, kind, round, rest⟩ => (match round with
    | none => (match isRet jump with
      | true => some (.out ⟨fn, defers, kind, none, rest⟩ nt tm todo .returning h nx)
      | false => none)
    | some n => leaveLoop2 T rest h nx kind n jump)
def blurT (ops : List Oper) (nt : Nat) (tm : Tm) : Tm := List.rec (motive := fun _ => Tm → Tm) (fun m => m) (fun o _ ih m => ih (put2 nt m o.dst .any)) ops tm
def blur2 (nt : Nat) (tm : Tm) (k : List AItem) : Tm :=
  match k with
  | i :: _ => (match i with
    | .drawn ops _ _ _ => blurT ops.toList nt tm
    | _ => tm)
  | [] => tm
def push2 (x : Ctx) (nt : Nat) (tm : Tm) (todo : List AItem) (m : AMode) (h : Heap) (nx : Nm) (r : Option Fr) : Option Cf :=
  match r with
  | some fr => (match fr with
    | ⟨fn, nt', tm', todo', defers', _, kind', round'⟩ => (match x with
      | ⟨f, defers, kind, round, rest⟩ => some (.run ⟨fn, defers', kind', round', ⟨f, nt, tm, todo, defers, m, kind, round⟩ :: rest⟩ nt' tm' todo' h nx)))
  | none => none
def raise2 (x : Ctx) (nt : Nat) (tm : Tm) (todo : List AItem) (m : AMode) (ch : List (AV × Bool)) (h : Heap) (nx : Nm) : Cf := .out x nt (blur2 nt tm todo) todo (raiseM m ch) h nx
def up2 (rest : List Fr) (ch : List (AV × Bool)) (h : Heap) (nx : Nm) : Option Cf :=
  match rest with
  | [] => none
  | c :: rest => (match c with
    | ⟨fn, nt, tm, todo, defers, mode, k, round⟩ => some (raise2 ⟨fn, defers, k, round, rest⟩ nt tm todo mode ch h nx))
def unwind2 (T : Tab) (x : Ctx) (nt : Nat) (tm : Tm) (todo : List AItem) (m : AMode) (h : Heap) (nx : Nm) (ret : Option (List (AV × Bool))) : Option Cf :=
  match x with
  | ⟨fn, defers, kind, round, rest⟩ => (match defers with
    | d :: ds => (match d with
      | ⟨tg, args⟩ => (match tg with
        | .collected n => (match h.get n with
          | some (.defd o) => (match o with
            | some calls => some (.out ⟨fn, calls ++ ds, kind, round, rest⟩ nt tm todo m (h.set (some (.defd none)) n) nx)
            | none => none)
          | _ => none)
        | .fn f captured => push2 ⟨fn, ds, kind, round, rest⟩ nt tm todo m h nx (enter2 T f (args ++ captured) .deferred)))
    | [] => (match T.fn fn with
      | some fn => (match ret with
        | some ch => up2 rest ch h nx
        | none => (match results2 T h nt tm fn.results with
          | some vs => return2 T rest kind (oneOr vs) h nx
          | none => none))
      | none => none))
def round2 (T : Tab) (h : Heap) (n : Nm) (args : List AV) : Option Fr :=
  match h.get n with
  | some (.loop _ _ fn tmps params assign body _) => (match T.fn fn with
    | some a => (match a with
      | ⟨_, _, nt, _⟩ => (match Nat.ble nt 256 && Nat.beq (lenL tmps) nt with
        | true => (match setParams tmps params args with
          | some tm => some ⟨fn, nt, fill tm 0 tm0, [.code assign, .beginRound, .code body], [], .run, .normal, some n⟩
          | none => none)
        | false => none))
    | none => none)
  | _ => none
def recTop2 (caller : Fr) (rest : List Fr) : Option (AV × List Fr) :=
  match caller with
  | ⟨fn, nt, tm, todo, defers, mode, k, round⟩ => (match mode with
    | .panicking ch => (match ch with
      | x :: older => (match x.2 with
        | false => some (x.1, ⟨fn, nt, tm, todo, defers, .panicking ((x.1, true) :: older), k, round⟩ :: rest)
        | true => none)
      | [] => none)
    | _ => none)
def apply2 (T : Tab) (x : Ctx) (nt : Nat) (tm : Tm) (todo : List AItem) (v : AV) (h : Heap) (nx : Nm) : Option Cf := valTo x nt h nx (finish2 T nt tm todo v h nx)
def recover2 (T : Tab) (x : Ctx) (nt : Nat) (tm : Tm) (todo : List AItem) (h : Heap) (nx : Nm) : Option Cf :=
  match x with
  | ⟨fn, defers, kind, round, rest⟩ => (match round with
    | some _ => none
    | none => (match kind with
      | .deferred => (match rest with
        | caller :: rest => (match recTop2 caller rest with
          | some p => apply2 T ⟨fn, defers, .deferred, none, p.2⟩ nt tm todo p.1 h nx
          | none => apply2 T ⟨fn, defers, .deferred, none, caller :: rest⟩ nt tm todo .nilif h nx)
        | [] => none)
      | .normal => apply2 T ⟨fn, defers, .normal, none, rest⟩ nt tm todo .nilif h nx
      | _ => none))
def defer2 (T : Tab) (x : Ctx) (nt : Nat) (tm : Tm) (todo : List AItem) (d : ADef) (h : Heap) (nx : Nm) : Option Cf :=
  match x with
  | ⟨fn, defers, kind, round, rest⟩ => (match round with
    | some _ => none
    | none => apply2 T ⟨fn, d :: defers, kind, none, rest⟩ nt tm todo undef h nx)
def alt2 (T : Tab) (x : Ctx) (nt : Nat) (tm : Tm) (todo : List AItem) (r : ARes) : Option Cf :=
  match r with
  | .val v h nx => apply2 T x nt tm todo v h nx
  | _ => none
/-- what comes of an operation's result: the frame's head waits for it -/
def applyR (T : Tab) (x : Ctx) (nt : Nat) (tm : Tm) (todo : List AItem) (h : Heap) (nx : Nm) (r : ARes) : Option Cf ⊕ List Cf :=
  match r with
  | .val v h' nx' => .inl (apply2 T x nt tm todo v h' nx')
  | .enter f args => .inl (push2 x nt tm todo .run h nx (enter2 T f args .normal))
  | .round n args => .inl (push2 x nt tm todo .run h nx (round2 T h n args))
  | .defer d => .inl (defer2 T x nt tm todo d h nx)
  | .recover => .inl (recover2 T x nt tm todo h nx)
  | .panic v => .inl (some (raise2 x nt tm todo .run [(v, false)] h nx))
  | .alts l => (match mapO (alt2 T x nt tm todo) l with
    | some l => .inr l
    | none => .inl none)

/-! ### the step: what comes of it goes to 'one', or to 'oth' -/
section
variable {β : Type}
abbrev One (β : Type) := Cf → β
abbrev Oth (β : Type) := Option (List Cf) → β
def ofO (r : Option Cf) (one : One β) (oth : Oth β) : β := Option.rec (motive := fun _ => One β → Oth β → β) (fun _ oth => oth none) (fun c one _ => one c) r one oth
def ofS (r : Option Cf ⊕ List Cf) (one : One β) (oth : Oth β) : β := match r with
  | .inl r => ofO r one oth
  | .inr l => oth (some l)
def applyK (T : Tab) (x : Ctx) (nt : Nat) (tm : Tm) (todo : List AItem) (h : Heap) (nx : Nm) (r : Option ARes) (one : One β) (oth : Oth β) : β :=
  match r with
  | some r => ofS (applyR T x nt tm todo h nx r) one oth
  | none => oth none
/-! code -/
abbrev CK2 (β : Type) := List AItem → Ctx → Nat → Tm → Heap → Nm → Tab → One β → Oth β → β
def cNo : CK2 β := fun _ _ _ _ _ _ _ _ oth => oth none
def cSkip : CK2 β := fun k x nt tm h nx _ one _ => one (.run x nt tm k h nx)
def regOk (T : Tab) (nt : Nat) (ops : List Oper) : Bool := staticOk T ops (befores ops []) && (Nat.ble (topSlot ops) nt && Nat.ble nt 256)
def cDrawn (ops : Array Oper) : CK2 β := fun k x nt tm h nx T one oth =>
  Bool.rec (motive := fun _ => β) (oth none) (one (.run x nt tm (.drawn ops (befores ops.toList []) (pends ops.toList) none :: k) h nx)) (regOk T nt ops.toList)
def cPlain (ops : Array Oper) : CK2 β := fun k x nt tm h nx T one oth => one (.run x nt tm (.inRegion ops ops.toList :: k) h nx)
def cRegion (id : Nat) (ops : Array Oper) (draw : Bool) : CK2 β := Bool.rec (motive := fun _ => CK2 β) (cPlain ops) (cDrawn ops) draw
def cSeq (a b : Code) (_ _ : CK2 β) : CK2 β := fun k x nt tm h nx _ one _ => one (.run x nt tm (.code a :: .code b :: k) h nx)
def onBool {γ : Type} (f : Bool → γ → γ) (v : AV) (no : γ) : γ :=
  AV.rec (motive_1 := fun _ => γ → γ) (motive_2 := fun _ => Unit)
    (fun no => no) f (fun _ _ no => no) (fun _ _ no => no) (fun _ no => no) (fun no => no) (fun _ _ no => no) (fun no => no) (fun _ _ _ _ no => no) (fun _ _ _ _ no => no) (fun _ no => no) (fun no => no) (fun _ no => no)
    (fun _ _ _ _ _ no => no) (fun _ no => no) (fun no => no) (fun _ _ _ no => no) (fun no => no) (fun _ _ no => no) (fun _ _ no => no) () (fun _ _ _ _ => ()) v no
def pickC (a b : Code) (t : Bool) : Code := Bool.rec (motive := fun _ => Code) b a t
def cCond (c : Operand) (a b : Code) (_ _ : CK2 β) : CK2 β := fun k x nt tm h nx _ one oth =>
  Option.rec (motive := fun _ => β) (oth none) (fun ac => onBool (fun t _ => Bool.rec (motive := fun _ => β) (one (.run x nt tm (.code b :: k) h nx)) (one (.run x nt tm (.code a :: k) h nx)) t) (ac tm) (oth none)) (opd c nt)
def cBlock (id : Nat) (body : Code) (_ : CK2 β) : CK2 β := fun k x nt tm h nx _ one _ => one (.run x nt tm (.code body :: .inBlock id :: k) h nx)
def cLoop (body : Code) (_ : CK2 β) : CK2 β := fun k x nt tm h nx _ one _ => one (.run x nt tm (.code body :: .inLoop body :: k) h nx)
def cScope (body : Code) (_ : CK2 β) : CK2 β := fun k x nt tm h nx _ one _ => one (.run x nt tm (.code body :: .inScope body :: k) h nx)
def rf2 (T : Tab) (x : Ctx) (nt : Nat) (tm : Tm) (h : Heap) (nx : Nm) (g : AV) (params : List Tmp) (assign body : Code) (k : List AItem) : Option Cf :=
  match g with
  | .func fn first captured => (match fn with
    | .func g => (match x with
      | ⟨fn, defers, kind, round, rest⟩ => (match round with
        | none => push2 ⟨fn, { tg := .collected nx, args := [] } :: defers, kind, none, rest⟩ nt tm (.inRange nx.succ :: k) .run
            ((h.set (some (.defd (some []))) nx).set (some (.loop .ready none fn (tm.upto nt) params assign body nx)) nx.succ) nx.succ.succ (enter2 T g (first ++ (.yld nx.succ :: captured)) .normal)
        | some n => (match h.get n with
          | some (.loop _ _ _ _ _ _ _ r) => push2 ⟨fn, defers, kind, some n, rest⟩ nt tm (.inRange nx :: k) .run (h.set (some (.loop .ready none fn (tm.upto nt) params assign body r)) nx) nx.succ (enter2 T g (first ++ (.yld nx :: captured)) .normal)
          | _ => none)))
    | _ => none)
  | _ => none
def cRangeFunc (f : Operand) (params : Array Tmp) (assign body : Code) (_ _ : CK2 β) : CK2 β := fun k x nt tm h nx T one oth =>
  Option.rec (motive := fun _ => β) (oth none) (fun ac => ofO (rf2 T x nt tm h nx (ac tm) params.toList assign body k) one oth) (opd f nt)
def cExit (id : Nat) : CK2 β := fun k x nt tm h nx T one oth =>
  Option.rec (motive := fun _ => β) (ofO (leave2 T x nt tm (.code (.exit id) :: k) h nx (some (.exit id))) one oth) (fun k' => one (.run x nt tm k' h nx)) (exitA id k)
def cRet : CK2 β := fun k x nt tm h nx T one oth => ofO (leave2 T x nt tm (.code .ret :: k) h nx (some .ret)) one oth
def iCode (c : Code) : CK2 β := fun k x nt tm h nx T one oth =>
  Code.rec (motive := fun _ => CK2 β) cSkip cRegion cSeq cCond cBlock cLoop cRangeFunc cExit cScope (fun _ => cSkip) (fun _ => cNo) cRet (fun _ => cNo) c k x nt tm h nx T one oth
def iLoop (body : Code) : CK2 β := fun k x nt tm h nx _ one _ =>
  R16.rec (motive := fun _ => β) (fun a0 a1 a2 a3 a4 a5 a6 a7 a8 a9 a10 a11 a12 a13 a14 a15 => one (.run x nt ⟨a0, a1, a2, a3, a4, a5, a6, a7, a8, a9, a10, a11, a12, a13, a14, a15⟩ (.code body :: .inLoop body :: k) h nx)) tm
/-- a result of an operation -/
def rVal (v : AV) (h' : Heap) (nx' : Nm) (p : Option (AV → Tm → Tm)) (ops : Array Oper) (o : Oper) (l : List Oper) : CK2 β := fun k x nt tm h nx T one oth =>
  one (.run x nt (putK p v tm) (.inRegion ops l :: k) h' nx')
abbrev RK (β : Type) := Option (AV → Tm → Tm) → Array Oper → Oper → List Oper → CK2 β
def rEnter (f : Nat) (args : List AV) : RK β := fun _ ops o l k x nt tm h nx T one oth => ofO (push2 x nt tm (.inRegion ops (o :: l) :: k) .run h nx (enter2 T f args .normal)) one oth
def rOther (r : ARes) : RK β := fun _ ops o l k x nt tm h nx T one oth => ofS (applyR T x nt tm (.inRegion ops (o :: l) :: k) h nx r) one oth
def rSome (r : ARes) : RK β := fun p ops o l k x nt tm h nx T one oth =>
  ARes.rec (motive_1 := fun _ => RK β) (motive_2 := fun _ => Unit) rVal rEnter (fun n as => rOther (.round n as)) (fun d => rOther (.defer d)) (rOther .recover) (fun v => rOther (.panic v)) (fun l _ => rOther (.alts l)) () (fun _ _ _ _ => ()) r p ops o l k x nt tm h nx T one oth
def oSlow (T : Tab) (ops : Array Oper) (o : Oper) (l k : List AItem → Prop) : Nat := 0
def slowOp (ops : Array Oper) (o : Oper) (l : List Oper) : CK2 β := fun k x nt tm h nx T one oth =>
  match wantedA ops.toList (env2 nt tm) o with
  | none => oth none
  | some t => (match t with
    | true => applyK T x nt tm (.inRegion ops (o :: l) :: k) h nx (execA T (env2 nt tm) h nx o.op) one oth
    | false => one (.run x nt (putK (dstK o.dst nt) undef tm) (.inRegion ops l :: k) h nx))
def fastOp (d : Dig) (ops : Array Oper) (o : Oper) (l : List Oper) : CK2 β := fun k x nt tm h nx T one oth =>
  Dig.rec (motive := fun _ => β) (fun g p => Option.rec (motive := fun _ => RK β) (fun _ _ _ _ _ _ _ _ _ _ _ _ oth => oth none) rSome (g tm h nx) p ops o l k x nt tm h nx T one oth) d
def iOp (o : Oper) (l : List Oper) (_ : Array Oper → CK2 β) (ops : Array Oper) : CK2 β := fun k x nt tm h nx T one oth =>
  Option.rec (motive := fun _ => Array Oper → Oper → List Oper → CK2 β) slowOp fastOp (dig o T nt) ops o l k x nt tm h nx T one oth
def iRegion (ops : Array Oper) (l : List Oper) : CK2 β := fun k x nt tm h nx T one oth =>
  List.rec (motive := fun _ => Array Oper → CK2 β) (fun _ => cSkip) iOp l ops k x nt tm h nx T one oth
def drawnEff2 (T : Tab) (x : Ctx) (nt : Nat) (tm : Tm) (ops : Array Oper) (bf : List Nat) (k : List AItem) (e : Nat) (V : List DV) (h : Heap) (nx : Nm) (one : One β) (oth : Oth β) : β :=
  match getN ops.toList e with
  | some o => (match getN bf e with
    | some be => (match ready V be 0 with
      | true => (match wantedA ops.toList (dEnv ops.toList V (tm.upto nt) be) o with
        | some t => (match t with
          | true => applyK T x nt tm (.drawn ops bf V (some e) :: k) h nx (execA T (dEnv ops.toList V (tm.upto nt) be) h nx o.op) one oth
          | false => oth none)
        | none => oth none)
      | false => oth none)
    | none => oth none)
  | none => oth none
def outT (ops : List Oper) (nt : Nat) : List DV → Tm → Tm :=
  List.rec (motive := fun _ => List DV → Tm → Tm) (fun _ m => m) (fun o _ ih V m => List.rec (motive := fun _ => Tm) m
    (fun w V _ => match w with | .done v => ih V (put2 nt m o.dst v) | .pend => m) V) ops
def iDrawn (ops : Array Oper) (bf : List Nat) (V : List DV) (w : Option Nat) : CK2 β := fun k x nt tm h nx T one oth =>
  match w with
  | some _ => oth none
  | none => (match pass T ops.toList bf (tm.upto nt) (List.range (lenL ops.toList)) ⟨V, h, nx⟩ with
    | some st => (match st with
      | ⟨V, h, nx⟩ => (match allB (closed1 T ops.toList bf V) (List.range (lenL ops.toList)) with
        | true => (match nextEff T ops.toList V 0 with
          | none => (match allDone V with
            | true => one (.run x nt (outT ops.toList nt V tm) k h nx)
            | false => oth none)
          | some e => drawnEff2 T x nt tm ops bf k e V h nx one oth)
        | false => oth none))
    | none => oth none)
def iEndRange (n : Nm) : CK2 β := fun k x nt tm h nx T one oth =>
  match h.get n with
  | some (.loop st pending fn tmps params assign body d) => (match st with
    | .busy => oth none
    | _ => one (.run x nt tm (jumpItems pending k) (h.set (some (.loop .exhausted pending fn tmps params assign body d)) n) nx))
  | _ => oth none
def iBegin : CK2 β := fun k x nt tm h nx T one oth =>
  match x.round with
  | some n => (match h.get n with
    | some (.loop st pending fn tmps params assign body d) => (match st with
      | .ready => one (.run x nt tm k (h.set (some (.loop .busy pending fn tmps params assign body d)) n) nx)
      | _ => oth none)
    | _ => oth none)
  | none => oth none
def tItem (i : AItem) (k : List AItem) (_ : Ctx → Nat → Tm → Heap → Nm → Tab → One β → Oth β → β) : Ctx → Nat → Tm → Heap → Nm → Tab → One β → Oth β → β := fun x nt tm h nx T one oth =>
  AItem.rec (motive := fun _ => CK2 β) iCode (fun _ => cSkip) iLoop (fun _ => cSkip) iRegion iDrawn (fun _ => cNo) iEndRange iBegin i k x nt tm h nx T one oth
def sRun (x : Ctx) (nt : Nat) (tm : Tm) (todo : List AItem) (h : Heap) (nx : Nm) (T : Tab) (one : One β) (oth : Oth β) : β :=
  List.rec (motive := fun _ => Ctx → Nat → Tm → Heap → Nm → Tab → One β → Oth β → β) (fun x nt tm h nx T one oth => ofO (leave2 T x nt tm [] h nx none) one oth) tItem todo x nt tm h nx T one oth
def sOut (x : Ctx) (nt : Nat) (tm : Tm) (todo : List AItem) (m : AMode) (h : Heap) (nx : Nm) (T : Tab) (one : One β) (oth : Oth β) : β :=
  match m with
  | .run => oth none
  | .returning => ofO (unwind2 T x nt tm todo .returning h nx none) one oth
  | .panicking ch => ofO (unwind2 T x nt tm todo (.panicking ch) h nx (some ch)) one oth
def step2 (c : Cf) (T : Tab) (one : One β) (oth : Oth β) : β := Cf.rec (motive := fun _ => Tab → One β → Oth β → β) sRun sOut c T one oth
end

/-! ### runs -/
def over2 (T : Tab) (f : Nat) (x : Ctx) (nt : Nat) (tm : Tm) (m : AMode) (h : Heap) : Option AV :=
  match x with
  | ⟨fn, defers, kind, round, rest⟩ => (match rest with
    | _ :: _ => none
    | [] => (match m with
      | .returning => (match defers with
        | [] => (match kind with
          | .normal => (match Nat.beq fn f with
            | true => (match T.fn f with
              | some fn => (results2 T h nt tm fn.results).map oneOr
              | none => none)
            | false => none)
          | _ => none)
        | _ => none)
      | _ => none))
def ends2 (T : Tab) (f : Nat) (c : Cf) : Bool :=
  match c with
  | .run _ _ _ _ _ _ => false
  | .out x nt tm _ m h _ => (match over2 T f x nt tm m h with
    | some v => isTrue v
    | none => false)
def othRun (T : Tab) (f : Nat) (c : Cf) (ih : Cf → Bool) (r : Option (List Cf)) : Bool :=
  match r with
  | some l => allB ih l
  | none => ends2 T f c
/-- on each way it ends and says true -/
def run2 (T : Tab) (f : Nat) (n : Nat) : Cf → Bool := Nat.rec (motive := fun _ => Cf → Bool) (fun _ => false) (fun _ ih c => step2 c T ih (othRun T f c ih)) n
/-- n steps on one way -/
def steps2 (T : Tab) (n : Nat) : Cf → Option Cf := Nat.rec (motive := fun _ => Cf → Option Cf) (fun c => some c) (fun _ ih c => step2 c T ih (fun _ => none)) n
end
end Go.AM

namespace Go.AM
section
variable {T : Tab} {n nt : Nat} {m tm : Tm} {h h' : Heap} {nx nx' : Nm}

theorem env2_eq (n : Nat) (m : Tm) : env2 n m = frameEnv (m.upto n) := by
  funext t
  unfold env2 frameEnv
  rw [upto_get]
theorem evl_upto {t : Nat} : evl (frameEnv (m.upto n)) (.tmp t) = some (get2 n m t) := by
  rw [← env2_eq]; rfl
theorem opd_spec {x : Operand} {a : Tm → AV} (e : opd x n = some a) (m : Tm) : evl (frameEnv (m.upto n)) x = some (a m) := by
  cases x with
  | tmp t =>
    rw [evl_upto]
    change opdTmp t n = some a at e
    unfold opdTmp at e
    unfold get2
    cases hq : accG t n with
    | none => rw [hq] at e; cases e; rfl
    | some b => rw [hq] at e; cases e; rfl
  | const c =>
    change opdCon c n = some a at e
    unfold opdCon at e
    simp only [evl]
    cases hq : ofConst c with
    | none => rw [hq] at e; cases e
    | some b => rw [hq] at e; cases e; rfl
  | global g => cases e
  | func f => cases e; rfl
theorem k1_spec {x : Operand} {f : AV → Heap → Nm → Option ARes} {g : XK} (e : k1 (opd x n) f = some g) (m : Tm) (h : Heap) (nx : Nm) : ∃ v, evl (frameEnv (m.upto n)) x = some v ∧ g m h nx = f v h nx := by
  cases hq : opd x n with
  | none => rw [hq] at e; cases e
  | some a => rw [hq] at e; cases e; exact ⟨a m, opd_spec hq m, rfl⟩
theorem k2_spec {x y : Operand} {f : AV → AV → Heap → Nm → Option ARes} {g : XK} (e : k2 (opd x n) (opd y n) f = some g) (m : Tm) (h : Heap) (nx : Nm) : ∃ u v, evl (frameEnv (m.upto n)) x = some u ∧ evl (frameEnv (m.upto n)) y = some v ∧ g m h nx = f u v h nx := by
  cases hq : opd x n with
  | none => rw [hq] at e; cases e
  | some a =>
    cases hr : opd y n with
    | none => rw [hq, hr] at e; cases e
    | some b => rw [hq, hr] at e; cases e; exact ⟨a m, b m, opd_spec hq m, opd_spec hr m, rfl⟩
theorem resK_eq (v : Option AV) (h : Heap) (nx : Nm) : resK v h nx = res h nx v := by cases v <;> rfl
theorem onPtr_load1 (v : AV) (h : Heap) (nx : Nm) : onPtr ldPtr1 v h nx = res h nx (match v with | .ptr n off => loadCell h n off | _ => none) := by
  cases v <;> first | rfl | (show resK _ _ _ = _; rw [resK_eq])
theorem onPtr_loadA (k : Nat) (v : AV) (h : Heap) (nx : Nm) : onPtr (ldAgg k) v h nx = res h nx (match v with | .ptr n off => (loadCells h n off k).map .agg | _ => none) := by
  cases v <;> first | rfl | skip
  case ptr b off =>
    show aggK (loadCells h b off k) h nx = res h nx ((loadCells h b off k).map .agg)
    cases loadCells h b off k <;> rfl
theorem kLoad_spec {t : TypeId} {x : Operand} {g : XK} (e : kLoad t x T n = some g) : g m h nx = execA T (frameEnv (m.upto n)) h nx (.load t x) := by
  unfold kLoad at e
  simp only [execA]
  cases ht : T.ty t with
  | none => rw [ht] at e; cases e
  | some ti =>
    rw [ht] at e
    change kLoadT ti (opd x n) = some g at e
    obtain ⟨d, size, bytes, zero, agg, flat⟩ := ti
    change k1 (opd x n) (Bool.rec (motive := fun _ => AV → Heap → Nm → Option ARes) (onPtr ldPtr1) (onPtr (ldAgg size)) agg) = some g at e
    obtain ⟨v, h1, h2⟩ := k1_spec e m h nx
    rw [h1, h2]
    simp only [Option.bind_some, loadA, ht]
    cases agg with
    | false =>
      show onPtr ldPtr1 v h nx = _
      rw [onPtr_load1]
      cases v <;> rfl
    | true =>
      show onPtr (ldAgg size) v h nx = _
      rw [onPtr_loadA]
      cases v <;> rfl
theorem biF_spec {op : BinOp} {k : IntKind} {f : Int → Int → AV} (e : biF op k = some f) (a b : Int) : binInt op k k a b = some (f a b) := by
  have hs : sameK k k = true := by cases k <;> rfl
  cases op <;> simp only [biF] at e <;> cases e <;> simp only [binInt, isShift, hs] <;> rfl
theorem sameK_eq {k k' : IntKind} (e : sameK k k' = true) : k = k' := by cases k <;> cases k' <;> first | rfl | cases e
theorem onInt_spec {γ : Type} (f : IntKind → Int → γ → γ) (v : AV) (no : γ) : onInt f v no = (match v with | .int k a => f k a no | _ => no) := by cases v <;> rfl
theorem bin2_spec (op : BinOp) (t : TypeId) (x y : AV) (h : Heap) (nx : Nm) : bin2 T op t x y h nx = res h nx (binA T op t x y) := by
  unfold bin2
  rw [onInt_spec]
  split
  · rename_i k a
    unfold bi2
    rw [onInt_spec]
    split
    · rename_i k' b
      unfold biRun biK
      cases hs : sameK k k' with
      | false => show binG T op t _ _ h nx = _; unfold binG; rw [resK_eq]
      | true =>
        have := sameK_eq hs
        subst this
        show biRun (biF op k) a b _ h nx = _
        cases hf : biF op k with
        | none => show binG T op t _ _ h nx = _; unfold binG; rw [resK_eq]
        | some f =>
          show some (ARes.val (f a b) h nx) = _
          simp only [binA, biF_spec hf a b, res, Option.map_some]
    · unfold binG; rw [resK_eq]
  · unfold binG; rw [resK_eq]
theorem fldT_spec {s : TypeId} {f o : Nat} (e : fldT T s f = some o) (v : AV) : opFieldAddr T s f v = (match v with | .ptr b off => some (.ptr b (Nat.add off o)) | _ => none) := by
  unfold fldT at e
  split at e
  case h_2 => cases e
  rename_i ti ht
  split at e
  case h_2 => cases e
  rename_i fs hd
  unfold fldOff at e
  split at e
  case h_2 => cases e
  rename_i o' c _ hg
  split at e
  · cases e
  rename_i hz
  cases e
  simp only [opFieldAddr, ht, hd, hg, hz]
  cases v <;> rfl
theorem onPtr_fld (o : Nat) (v : AV) (h : Heap) (nx : Nm) : onPtr (fldPtr o) v h nx = res h nx (match v with | .ptr b off => some (.ptr b (Nat.add off o)) | _ => none) := by
  cases v <;> rfl
theorem opds_spec : ∀ {l : List Operand} {as : List (Tm → AV)}, opds l n = some as → ∀ m : Tm, evls (frameEnv (m.upto n)) l = some (mapT as m)
  | [], as, e, m => by cases e; rfl
  | x :: l, as, e, m => by
    change Option.rec (motive := fun _ => Option (List (Tm → AV))) none (fun a => Option.rec (motive := fun _ => Option (List (Tm → AV))) none (fun l => some (a :: l)) (opds l n)) (opd x n) = some as at e
    cases hq : opd x n with
    | none => rw [hq] at e; cases e
    | some a =>
      rw [hq] at e
      cases hr : opds l n with
      | none => rw [hr] at e; cases e
      | some bs =>
        rw [hr] at e; cases e
        have h1 := opd_spec hq m
        have h2 := opds_spec hr m
        show (match evl (frameEnv (m.upto n)) x with | some v => (evls (frameEnv (m.upto n)) l).map (v :: ·) | none => none) = _
        rw [h1, h2]; rfl
theorem kCallV_spec {f : Option (Tm → AV)} {as : Option (List (Tm → AV))} {g : XK} (e : kCallV f as T = some g) : ∃ a l, f = some a ∧ as = some l ∧ ∀ m h nx, g m h nx = callA T h nx (a m) (mapT l m) := by
  cases f with
  | none => cases e
  | some a => cases as with
    | none => cases e
    | some l => cases e; exact ⟨a, l, rfl, rfl, fun _ _ _ => rfl⟩
theorem kCall_spec {c : Call} {g : XK} (e : kCall c T n = some g) : g m h nx = execA T (frameEnv (m.upto n)) h nx (.call c) := by
  obtain ⟨callee, args, ts⟩ := c
  simp only [execA, opCall]
  cases callee with
  | value f =>
    change kCallO f (opds args.toList n) T n = some g at e
    simp only
    have viaV : ∀ {x : Operand}, kCallV (opd x n) (opds args.toList n) T = some g → g m h nx = (match evls (frameEnv (m.upto n)) args.toList with
        | none => none
        | some args => (evl (frameEnv (m.upto n)) x).bind fun fv => callA T h nx fv args) := by
      intro x e
      obtain ⟨a, l, h1, h2, h3⟩ := kCallV_spec e
      rw [h3, opds_spec h2 m, opd_spec h1 m]; rfl
    cases f with
    | tmp t => exact viaV e
    | const c => exact viaV e
    | global g => cases e
    | func f =>
      change kCallF f (opds args.toList n) T = some g at e
      unfold kCallF at e
      cases hk : kEnter f T with
      | none => rw [hk] at e; cases e
      | some b =>
        rw [hk] at e
        cases b with
        | none => exact viaV (x := .func f) e
        | some b =>
          cases hl : opds args.toList n with
          | none => rw [hl] at e; cases e
          | some l =>
            rw [hl] at e
            cases e
            rw [opds_spec hl m]
            unfold kEnter at hk
            split at hk
            case h_2 => cases hk
            rename_i fn hfn
            split at hk
            case h_2 => cases hk
            rename_i c' hb
            simp only [evl, Option.bind_some, callA, callFn, hfn, hb]
            simp
  | invoke r s => cases e
  | builtin b =>
    change kCallB b ts.toList (opds args.toList n) T = some g at e
    unfold kCallB at e
    cases hl : opds args.toList n with
    | none => rw [hl] at e; cases e
    | some l => rw [hl] at e; cases e; rw [opds_spec hl m]
theorem opK_spec {o : Op} {g : XK} (e : opK o T n = some g) (m : Tm) (h : Heap) (nx : Nm) : g m h nx = execA T (frameEnv (m.upto n)) h nx o := by
  have slow : ∀ o, kSlow o T n = some g → g m h nx = execA T (frameEnv (m.upto n)) h nx o := by
    intro o e; cases e; rw [← env2_eq]
  have one : ∀ {x : Operand} {f : AV → Heap → Nm → Option ARes} {r : Option ARes}, k1 (opd x n) f = some g → (∀ v, evl (frameEnv (m.upto n)) x = some v → f v h nx = r) → g m h nx = r := by
    intro x f r e hr
    obtain ⟨v, h1, h2⟩ := k1_spec e m h nx
    rw [h2]; exact hr v h1
  have two : ∀ {x y : Operand} {f : AV → AV → Heap → Nm → Option ARes} {r : Option ARes}, k2 (opd x n) (opd y n) f = some g → (∀ u v, evl (frameEnv (m.upto n)) x = some u → evl (frameEnv (m.upto n)) y = some v → f u v h nx = r) → g m h nx = r := by
    intro x y f r e hr
    obtain ⟨u, v, h1, h2, h3⟩ := k2_spec e m h nx
    rw [h3]; exact hr u v h1 h2
  cases o <;> first | (cases e; done) | (exact slow _ e; done) | skip
  case move x => exact one (x := x) (f := val2) e fun v hv => by simp only [execA, hv]; rfl
  case assign x => exact one (x := x) (f := val2) e fun v hv => by simp only [execA, hv]; rfl
  case load t x => exact kLoad_spec e
  case store t a x => exact two (x := a) (y := x) (f := fun a x h nx => opStore T h nx t a x) e fun u v hu hv => by simp only [execA, hu, hv, Option.bind_some]
  case nilCheck x => exact one (x := x) (f := fun v h nx => resK (opNil v) h nx) e fun v hv => by rw [resK_eq]; simp only [execA, hv, Option.bind_some]
  case binOp op t x y t' => exact two (x := x) (y := y) (f := bin2 T op t) e fun u v hu hv => by rw [bin2_spec]; simp only [execA, hu, hv, Option.bind_some]
  case convert s d x => exact one (x := x) (f := fun v h nx => opConvert T h nx s d v) e fun v hv => by simp only [execA, hv, Option.bind_some]
  case fieldAddr s x f =>
    change Option.rec (motive := fun _ => Option (Tm → AV) → Option XK) (fun _ => none) (fun o a => k1 a (onPtr (fldPtr o))) (fldT T s f) (opd x n) = some g at e
    cases hf : fldT T s f with
    | none => rw [hf] at e; cases e
    | some o =>
      rw [hf] at e
      exact one (f := onPtr (fldPtr o)) e fun v hv => by rw [onPtr_fld]; simp only [execA, hv, Option.bind_some]; rw [fldT_spec hf]
  case field t x f => exact one (x := x) (f := fun v h nx => resK (opField T t f v) h nx) e fun v hv => by rw [resK_eq]; simp only [execA, hv, Option.bind_some]
  case indexAddr t x i => exact two (x := x) (y := i) (f := fun a i h nx => resK ((natOf i).bind (opIndexAddr T t a)) h nx) e fun u v hu hv => by rw [resK_eq]; simp only [execA, hu, hv, Option.bind_some]
  case index t x i => exact two (x := x) (y := i) (f := fun a i h nx => resK ((natOf i).bind (opIndex T t a)) h nx) e fun u v hu hv => by rw [resK_eq]; simp only [execA, hu, hv, Option.bind_some]
  case extract x i => exact one (x := x) (f := fun v h nx => resK (opExtract v i) h nx) e fun v hv => by rw [resK_eq]; simp only [execA, hv, Option.bind_some]
  case call c => exact kCall_spec e
theorem dig_spec {o : Oper} {d : Dig} (e : dig o T n = some d) : o.guard = none ∧ opK o.op T n = some d.x ∧ d.p = dstK o.dst n := by
  obtain ⟨dst, op, type, pos, after, guard⟩ := o
  change Option.rec (motive := fun _ => Option Dig) (digO (opK op T n) (dstK dst n)) (fun _ => none) guard = some d at e
  cases guard with
  | some g => cases e
  | none =>
    change digO (opK op T n) (dstK dst n) = some d at e
    unfold digO at e
    cases hq : opK op T n with
    | none => rw [hq] at e; cases e
    | some g => rw [hq] at e; cases e; exact ⟨rfl, rfl, rfl⟩
theorem putK_spec (d : Option Nat) (v : AV) (m : Tm) (n : Nat) : (putK (dstK d n) v m).upto n = putA (m.upto n) d v := by
  rw [upto_put]
  cases d with
  | none => rfl
  | some t =>
    show (putK (sttG t n) v m).upto n = (set2 n m t v).upto n
    unfold putK set2
    cases sttG t n <;> rfl
end
end Go.AM

namespace Go.AM
noncomputable section
def Fr.a (f : Fr) : AFrame := ⟨f.fn, f.tm.upto f.nt, f.todo, f.defers, f.mode, f.kind, f.round⟩
def topA (x : Ctx) (nt : Nat) (tm : Tm) (todo : List AItem) (m : AMode) : AFrame := ⟨x.fn, tm.upto nt, todo, x.defers, m, x.kind, x.round⟩
def Cf.a : Cf → Cfg
  | .run x nt tm todo h nx => ⟨topA x nt tm todo .run, x.rest.map Fr.a, h, nx⟩
  | .out x nt tm todo m h nx => ⟨topA x nt tm todo m, x.rest.map Fr.a, h, nx⟩
end
section
variable {T : Tab} {n nt : Nat} {m tm : Tm} {h h' : Heap} {nx nx' : Nm} {x : Ctx} {todo : List AItem} {mode : AMode} {rest : List Fr}

theorem upto256 (m : Tm) : m.upto 256 = m.all := by
  unfold Tm.upto
  rw [List.take_of_length_le (by rw [all_len]; omega)]
theorem setU_all {t : Nat} (ht : t < 256) (v : AV) (m : Tm) : (setU t v m).all = m.all.set t v := by
  have h1 := upto_set 256 m t v
  rw [upto256, upto256, setN_eq] at h1
  rw [h1]
  unfold set2 sttG
  have hb : Nat.ble (Nat.succ t) 256 = true := Nat.ble_eq_true_of_le ht
  rw [hb]; rfl
theorem fill_all : ∀ (l : List AV) (i : Nat) (m : Tm), i + l.length ≤ 256 → (fill l i m).all = m.all.take i ++ l ++ m.all.drop (i + l.length)
  | [], i, m, h => by simp [fill]
  | v :: l, i, m, h => by
    have e : fill (v :: l) i m = fill l (Nat.succ i) (setU i v m) := rfl
    simp only [List.length_cons] at h ⊢
    rw [e, fill_all l (i + 1) _ (by omega), setU_all (by omega)]
    apply List.ext_getElem?
    intro j
    have hl := all_len m
    rw [List.getElem?_append, List.getElem?_append, List.getElem?_append, List.getElem?_append]
    simp only [List.length_append, List.length_take, List.length_set, hl, List.getElem?_take, List.getElem?_set, List.getElem?_drop, List.length_cons]
    by_cases h1 : j < i
    · rw [if_pos (by omega), if_pos (by omega), if_pos (by omega), if_neg (by omega), if_pos (by omega), if_pos (by omega), if_pos (by omega)]
    · by_cases h2 : j = i
      · subst h2
        rw [if_pos (by omega), if_pos (by omega), if_pos (by omega), if_pos rfl, if_pos (by omega), if_pos (by omega), if_neg (by omega)]
        have : j - min j 256 = 0 := by omega
        rw [this]; rfl
      · by_cases h3 : j < i + (l.length + 1)
        · rw [if_pos (by omega), if_neg (by omega), if_pos (by omega), if_neg (by omega)]
          have e1 : j - min (i + 1) 256 = j - i - 1 := by omega
          have e2 : j - min i 256 = (j - i - 1) + 1 := by omega
          rw [e1, e2, List.getElem?_cons_succ]
        · rw [if_neg (by omega), if_neg (by omega), if_neg (by omega)]
          congr 1; omega
theorem tm0_all : tm0.all = List.replicate 256 undef := by
  unfold tm0 Tm.all
  rw [R16.rep_l, List.map_replicate, R16.rep_l, List.flatten_replicate_replicate]
theorem fill_upto {l : List AV} {k : Nat} (h1 : l.length ≤ k) (h2 : k ≤ 256) : (fill l 0 tm0).upto k = l ++ replicateL [undef] (k - l.length) := by
  have hr : ∀ j, replicateL [undef] j = List.replicate j undef := by
    intro j
    induction j with
    | zero => rfl
    | succ j ih => rw [replicateL_succ, ih]; rfl
  unfold Tm.upto
  rw [fill_all l 0 tm0 (by omega), tm0_all, hr]
  simp only [List.take_zero, List.nil_append, List.drop_replicate, Nat.zero_add]
  rw [List.take_append, List.take_of_length_le h1, List.take_replicate]
  congr 2; omega
theorem enter2_spec {f : Nat} {args : List AV} {kind : CallKind} {fr : Fr} (e : enter2 T f args kind = some fr) : enterF T f args kind = some fr.a ∧ fr.mode = .run := by
  unfold enter2 at e
  unfold enterF
  split at e
  case h_2 => cases e
  rename_i fn hfn
  obtain ⟨i, body, k, rs⟩ := fn
  simp only at e
  split at e
  case h_2 => cases e
  rename_i b
  split at e
  case h_2 => cases e
  rename_i hb
  cases e
  simp only [Bool.and_eq_true, ble_iff, decide_eq_true_eq, lenL_eq] at hb
  rw [hfn]
  refine ⟨?_, rfl⟩
  simp only
  simp only [Fr.a]
  rw [fill_upto (by omega) (by omega), lenL_eq]
  rfl
theorem finish2_spec {v : AV} {p : Tm × List AItem} (e : finish2 T nt tm todo v h nx = some p) (x : Ctx) (mode : AMode) : finishA T (topA x nt tm todo mode) v h nx = some (topA x nt p.1 p.2 mode) := by
  unfold finish2 at e
  unfold finishA
  simp only [topA]
  split at e
  · cases e
  rename_i i k
  split at e
  · rename_i ops l
    split at e
    · rename_i o l
      cases e
      simp only [AFrame.to2, putK_spec]
    · cases e
  · rename_i ops bf V w
    split at e
    · rename_i ev
      split at e
      · rename_i hb
        cases e
        simp only [hb, AFrame.to]
      · cases e
    · cases e
  · cases e; rfl
  · cases e
theorem valTo_spec {r : Option (Tm × List AItem)} {c : Cf} (e : valTo x nt h nx r = some c) : ∃ p, r = some p ∧ c = .run x nt p.1 p.2 h nx := by
  unfold valTo at e
  split at e
  · rename_i p
    obtain ⟨a, b⟩ := p
    cases e; exact ⟨_, rfl, rfl⟩
  · cases e
theorem return2_spec {kind : CallKind} {v : AV} {c : Cf} (e : return2 T rest kind v h nx = some c) : returnA T (rest.map Fr.a) kind v h nx = some c.a := by
  unfold return2 at e
  unfold returnA
  split at e
  · cases e
  rename_i fr rest
  obtain ⟨fn, nt, tm, todo, defers, mode, k, round⟩ := fr
  simp only [List.map_cons, Fr.a] at e ⊢
  split at e
  · split at e
    case h_2 => cases e
    obtain ⟨p, hp, rfl⟩ := valTo_spec e
    have := finish2_spec hp ⟨fn, defers, k, round, rest⟩ .run
    simp only [topA] at this
    simp only [this, Option.map_some, Cf.a, topA]
  · split at e
    · cases e
    · rename_i hm
      cases e
      cases mode with
      | run => exact absurd rfl hm
      | returning => rfl
      | panicking ch => rfl
  · cases e
theorem results2_spec : ∀ {l : List ResultVar} {vs : List AV}, results2 T h nt tm l = some vs → resultsA T h (tm.upto nt) l = some vs
  | [], vs, e => e
  | .tmp t :: l, vs, e => by
    simp only [results2, Option.map_eq_some_iff] at e
    obtain ⟨us, h1, rfl⟩ := e
    simp only [resultsA, results2_spec h1, AM.slot, upto_get, Option.map_some]
  | .cell a t :: l, vs, e => by
    simp only [results2] at e
    split at e
    case h_2 => cases e
    rename_i v hv
    simp only [Option.map_eq_some_iff] at e
    obtain ⟨us, h1, rfl⟩ := e
    simp only [resultsA, results2_spec h1, AM.slot, upto_get, hv, Option.map_some]
theorem leaveLoop2_spec {kind : CallKind} {l : Nm} {jump : Option Code} {c : Cf} (e : leaveLoop2 T rest h nx kind l jump = some c) : leaveLoop T (rest.map Fr.a) h nx kind l jump = some c.a := by
  unfold leaveLoop2 at e
  unfold leaveLoop
  split at e
  case h_2 => cases e
  rename_i hg
  rw [hg]
  simp only
  split at e
  · exact return2_spec e
  · exact return2_spec e
theorem leave2_spec {jump : Option Code} {c : Cf} (e : leave2 T x nt tm todo h nx jump = some c) : leaveA T (topA x nt tm todo .run) (x.rest.map Fr.a) h nx jump = some c.a := by
  obtain ⟨fn, defers, kind, round, rest⟩ := x
  unfold leave2 at e
  unfold leaveA
  simp only [topA] at e ⊢
  split at e
  · split at e
    · rename_i hj; cases e; simp only [hj]; rfl
    · cases e
  · exact leaveLoop2_spec e
theorem blurT_spec : ∀ (l : List Oper) (m : Tm), (blurT l nt m).upto nt = blurTmps l (m.upto nt)
  | [], m => rfl
  | o :: l, m => by
    have e1 : blurT (o :: l) nt m = blurT l nt (put2 nt m o.dst .any) := rfl
    have e2 : blurTmps (o :: l) (m.upto nt) = blurTmps l (putA (m.upto nt) o.dst .any) := rfl
    rw [e1, e2, blurT_spec l, upto_put]
theorem raise2_spec (ch : List (AV × Bool)) : (raise2 x nt tm todo mode ch h nx).a = ⟨(topA x nt tm todo mode).raise ch, x.rest.map Fr.a, h, nx⟩ := by
  unfold raise2 Cf.a topA AFrame.raise blur2 blur
  simp only [Cfg.mk.injEq, AFrame.mk.injEq, true_and, and_true]
  cases todo with
  | nil => rfl
  | cons i k => cases i <;> first | exact blurT_spec _ _ | rfl
theorem push2_spec {r : Option Fr} {c : Cf} {r' : Option AFrame} (hr : ∀ fr, r = some fr → r' = some fr.a ∧ fr.mode = .run) (e : push2 x nt tm todo mode h nx r = some c) :
    r'.map (fun fr' => (⟨fr', topA x nt tm todo mode :: x.rest.map Fr.a, h, nx⟩ : Cfg)) = some c.a := by
  unfold push2 at e
  split at e
  case h_2 => cases e
  rename_i fr
  obtain ⟨h1, h2⟩ := hr fr rfl
  obtain ⟨fn, nt', tm', todo', defers', mode', kind', round'⟩ := fr
  obtain ⟨f, defers, kind, round, rest⟩ := x
  cases e
  rw [h1]
  simp only at h2
  subst h2
  rfl
theorem up2_spec {ch : List (AV × Bool)} {c : Cf} (e : up2 rest ch h nx = some c) : (match rest.map Fr.a with | caller :: rest => some (⟨caller.raise ch, rest, h, nx⟩ : Cfg) | [] => none) = some c.a := by
  unfold up2 at e
  split at e
  · cases e
  rename_i fr rest
  obtain ⟨fn, nt, tm, todo, defers, mode, k, round⟩ := fr
  cases e
  rw [raise2_spec]
  rfl
theorem unwind2_spec {ret : Option (List (AV × Bool))} {c : Cf} (e : unwind2 T x nt tm todo mode h nx ret = some c) : unwindA T (topA x nt tm todo mode) (x.rest.map Fr.a) h nx ret = some c.a := by
  obtain ⟨fn, defers, kind, round, rest⟩ := x
  unfold unwind2 at e
  unfold unwindA
  simp only [topA] at e ⊢
  split at e
  · rename_i d ds
    obtain ⟨tg, args⟩ := d
    simp only at e ⊢
    split at e
    · rename_i l
      split at e
      case h_2 => cases e
      rename_i o hg
      simp only [takeDefd, hg]
      split at e
      · cases e; rfl
      · cases e
    · rename_i f captured
      exact push2_spec (fun fr hfr => enter2_spec hfr) e
  · split at e
    case h_2 => cases e
    rename_i a ha
    split at e
    · rename_i ch
      simp only [ha]
      exact up2_spec e
    · simp only [ha]
      split at e
      · rename_i vs hvs
        rw [results2_spec hvs]
        exact return2_spec e
      · cases e
theorem round2_spec {l : Nm} {args : List AV} {fr : Fr} (e : round2 T h l args = some fr) : roundF h l args .normal = some fr.a ∧ fr.mode = .run := by
  unfold round2 at e
  unfold roundF
  split at e
  case h_2 => cases e
  rename_i st pd fn tmps params assign body d hg
  rw [hg]
  simp only
  split at e
  case h_2 => cases e
  rename_i a ha
  obtain ⟨i, b, k, rs⟩ := a
  simp only at e
  split at e
  case h_2 => cases e
  rename_i hb
  simp only [Bool.and_eq_true, ble_iff, decide_eq_true_eq, lenL_eq, Nat.beq_eq_true_eq] at hb
  split at e
  case h_2 => cases e
  rename_i tm hs
  cases e
  rw [hs]
  refine ⟨?_, rfl⟩
  have hlen : tm.length = tmps.length := by
    have : ∀ (ps : List Nat) (tmps tm args : List AV), setParams tmps ps args = some tm → tm.length = tmps.length := by
      intro ps
      induction ps with
      | nil => intro tmps tm args e; unfold setParams at e; split at e <;> cases e; rfl
      | cons p ps ih => intro tmps tm args e; unfold setParams at e; split at e
                        · rw [ih _ _ _ e, setN_eq, List.length_set]
                        · cases e
    exact this _ _ _ _ hs
  simp only [Option.map_some, Fr.a]
  have hk := Nat.eq_of_beq_eq_true hb.2
  rw [fill_upto (by omega) (by omega)]
  have : k - tm.length = 0 := by omega
  rw [this]
  have : replicateL [undef] 0 = [] := rfl
  rw [this, List.append_nil]
theorem apply2_spec {v : AV} {c : Cf} (e : apply2 T x nt tm todo v h nx = some c) : applyVal T (topA x nt tm todo .run) (x.rest.map Fr.a) v h nx = some c.a := by
  unfold apply2 at e
  obtain ⟨p, hp, rfl⟩ := valTo_spec e
  unfold applyVal
  rw [finish2_spec hp x .run]; rfl
theorem recTop2_spec (caller : Fr) (rest : List Fr) : recTop caller.a (rest.map Fr.a) = (recTop2 caller rest).map fun p => (p.1, p.2.map Fr.a) := by
  obtain ⟨fn, nt, tm, todo, defers, mode, k, round⟩ := caller
  unfold recTop2 recTop
  simp only [Fr.a]
  cases mode with
  | run => rfl
  | returning => rfl
  | panicking ch => cases ch with
    | nil => rfl
    | cons y l => obtain ⟨v, b⟩ := y; cases b <;> rfl
theorem recover2_spec {c : Cf} (e : recover2 T x nt tm todo h nx = some c) : ((recoverA (topA x nt tm todo .run) (x.rest.map Fr.a)).bind (applyRec T (topA x nt tm todo .run) (x.rest.map Fr.a) h nx)) = some c.a := by
  obtain ⟨fn, defers, kind, round, rest⟩ := x
  unfold recover2 at e
  unfold recoverA
  simp only [topA] at e ⊢
  split at e
  · cases e
  · split at e
    · split at e
      case h_2 => cases e
      rename_i caller rest
      simp only [List.map_cons, Option.bind_some]
      rw [recTop2_spec]
      split at e
      · rename_i p hp
        rw [hp]
        exact apply2_spec e
      · rename_i hp
        rw [hp]
        exact apply2_spec e
    · exact apply2_spec e
    · cases e
theorem defer2_spec {d : ADef} {c : Cf} (e : defer2 T x nt tm todo d h nx = some c) : applyDefer T (topA x nt tm todo .run) (x.rest.map Fr.a) h nx d = some c.a := by
  obtain ⟨fn, defers, kind, round, rest⟩ := x
  unfold defer2 at e
  unfold applyDefer
  simp only [topA] at e ⊢
  split at e
  · cases e
  · exact apply2_spec e
theorem mapO_spec {α β γ : Type} {f : α → Option β} {g : α → Option γ} {k : β → γ} (hf : ∀ a b, f a = some b → g a = some (k b)) : ∀ {l : List α} {m : List β}, mapO f l = some m → mapO g l = some (m.map k)
  | [], m, e => by cases e; rfl
  | a :: l, m, e => by
    unfold mapO at e ⊢
    obtain ⟨b, h1, h2⟩ := bind_some e
    simp only [Option.map_eq_some_iff] at h2
    obtain ⟨bs, h3, rfl⟩ := h2
    rw [hf a b h1, Option.bind_some, mapO_spec hf h3]; rfl
/-- what the step of the elder machine says of a result -/
def Says (r : SR) (q : Option Cf ⊕ List Cf) : Prop :=
  match q with
  | .inl (some c) => r = .one c.a
  | .inl none => True
  | .inr l => r = .alts (l.map Cf.a)
theorem applyR_spec (r : ARes) : Says (applyA T (topA x nt tm todo .run) (x.rest.map Fr.a) h nx r) (applyR T x nt tm todo h nx r) := by
  have key : ∀ {o : Option Cf} {o' : Option Cfg}, (∀ c, o = some c → o' = some c.a) → Says (.of o') (.inl o) := by
    intro o o' hh
    cases o with
    | none => trivial
    | some c => show SR.of o' = _; rw [hh c rfl]; rfl
  unfold applyR applyA
  cases r with
  | val v h' nx' => exact key fun c e => apply2_spec e
  | enter f args => exact key fun c e => push2_spec (fun fr hfr => enter2_spec hfr) e
  | round l args => exact key fun c e => push2_spec (fun fr hfr => round2_spec hfr) e
  | defer d => exact key fun c e => defer2_spec e
  | recover => exact key fun c e => recover2_spec e
  | panic v => show SR.one _ = SR.one _; rw [raise2_spec]
  | alts l =>
    simp only
    cases hq : mapO (alt2 T x nt tm todo) l with
    | none => trivial
    | some m =>
      simp only
      have := mapO_spec (g := applyAlt T (topA x nt tm todo .run) (x.rest.map Fr.a)) (k := Cf.a) (fun a b e => by
        cases a with
        | val v h nx => exact apply2_spec e
        | _ => cases e) hq
      rw [this]; rfl
end
end Go.AM

namespace Go.AM
section
variable {β : Type} {T : Tab} {n nt : Nat} {m tm : Tm} {h h' : Heap} {nx nx' : Nm} {x : Ctx} {todo k : List AItem} {mode : AMode} {rest : List Fr} {one : One β} {oth : Oth β} {Q : β → Prop}

/-- the elder machine's step, as the one for the kernel has it -/
def Out (r : SR) (one : One β) (oth : Oth β) (Q : β → Prop) : Prop := (∃ c', r = .one c'.a ∧ Q (one c')) ∨ (∃ l, r = .alts (l.map Cf.a) ∧ Q (oth (some l))) ∨ Q (oth none)
theorem ofO_out {r : Option Cf} {r' : Option Cfg} (hr : ∀ c, r = some c → r' = some c.a) (q : Q (ofO r one oth)) : Out (.of r') one oth Q := by
  cases r with
  | none => exact .inr (.inr q)
  | some c => exact .inl ⟨c, by rw [hr c rfl]; rfl, q⟩
theorem ofS_out {r : Option Cf ⊕ List Cf} {r' : SR} (hr : Says r' r) (q : Q (ofS r one oth)) : Out r' one oth Q := by
  cases r with
  | inl r => cases r with
    | none => exact .inr (.inr q)
    | some c => exact .inl ⟨c, hr, q⟩
  | inr l => exact .inr (.inl ⟨l, hr, q⟩)
noncomputable def applyO (T : Tab) (fr : AFrame) (rest : List AFrame) (h : Heap) (nx : Nm) (r : Option ARes) : SR := match r with
  | some r => applyA T fr rest h nx r
  | none => .fail
theorem applyK_out {r : Option ARes} (q : Q (applyK T x nt tm todo h nx r one oth)) : Out (applyO T (topA x nt tm todo .run) (x.rest.map Fr.a) h nx r) one oth Q := by
  unfold applyK at q
  cases r with
  | none => exact .inr (.inr q)
  | some r => exact ofS_out (applyR_spec r) q
theorem one_out {c : Cf} {r : SR} (hr : r = .one c.a) (q : Q (one c)) : Out r one oth Q := .inl ⟨c, hr, q⟩
theorem no_out {r : SR} (q : Q (oth none)) : Out r one oth Q := .inr (.inr q)

theorem topSlot_has {l : List Oper} {n : Nat} {m : Tm} (h1 : topSlot l ≤ n) (h2 : n ≤ 256) : hasSlots (m.upto n) (topSlot l) = true := by
  generalize topSlot l = t at h1
  cases t with
  | zero => rfl
  | succ t =>
    unfold hasSlots
    have : t < (m.upto n).length := by
      unfold Tm.upto
      rw [List.length_take, all_len]; omega
    simp only [getN_eq, List.getElem?_eq_getElem this]
theorem onBool_spec {γ : Type} (f : Bool → γ → γ) (v : AV) (no : γ) : onBool f v no = (match v with | .bool b => f b no | _ => no) := by cases v <;> rfl
theorem code_out {c : Code} (q : Q (iCode c k x nt tm h nx T one oth)) : Out (stepCode T (topA x nt tm (.code c :: k) .run) (x.rest.map Fr.a) h nx c k) one oth Q := by
  cases c with
  | skip => exact one_out rfl q
  | region id ops draw =>
    cases draw with
    | false => exact one_out rfl q
    | true =>
      change Q (Bool.rec (motive := fun _ => β) (oth none) (one (.run x nt tm (.drawn ops (befores ops.toList []) (pends ops.toList) none :: k) h nx)) (regOk T nt ops.toList)) at q
      cases hb : regOk T nt ops.toList with
      | false => rw [hb] at q; exact no_out q
      | true =>
        rw [hb] at q
        refine one_out ?_ q
        unfold regOk at hb
        simp only [Bool.and_eq_true, ble_iff, decide_eq_true_eq] at hb
        simp only [stepCode, stepRegion, topA, hb.1, topSlot_has hb.2.1 hb.2.2, Bool.and_self, Option.map_some]
        rfl
  | seq a b => exact one_out rfl q
  | cond c a b =>
    change Q (Option.rec (motive := fun _ => β) (oth none) (fun ac => onBool (fun t _ => Bool.rec (motive := fun _ => β) (one (.run x nt tm (.code b :: k) h nx)) (one (.run x nt tm (.code a :: k) h nx)) t) (ac tm) (oth none)) (opd c nt)) at q
    cases ho : opd c nt with
    | none => rw [ho] at q; exact no_out q
    | some ac =>
      rw [ho] at q
      change Q (onBool _ (ac tm) (oth none)) at q
      rw [onBool_spec] at q
      have he := opd_spec ho tm
      simp only [stepCode, stepCond, topA, he]
      split at q
      · rename_i t hv
        simp only [hv]
        cases t with
        | false => exact one_out rfl q
        | true => exact one_out rfl q
      · exact no_out q
  | block id body => exact one_out rfl q
  | loop body => exact one_out rfl q
  | rangeFunc f params assign body =>
    change Q (Option.rec (motive := fun _ => β) (oth none) (fun ac => ofO (rf2 T x nt tm h nx (ac tm) params.toList assign body k) one oth) (opd f nt)) at q
    cases ho : opd f nt with
    | none => rw [ho] at q; exact no_out q
    | some ac =>
      rw [ho] at q
      have he := opd_spec ho tm
      simp only [stepCode, topA, he, Option.bind_some]
      refine ofO_out (fun c e => ?_) q
      obtain ⟨fn, defers, kind, round, rest⟩ := x
      unfold rf2 at e
      unfold stepRF
      generalize ac tm = g at e
      split at e
      case h_2 => cases e
      split at e
      case h_2 => cases e
      simp only at e ⊢
      split at e
      · exact push2_spec (fun fr hfr => enter2_spec hfr) e
      · split at e
        case h_2 => cases e
        rename_i hg
        simp only [hg]
        exact push2_spec (fun fr hfr => enter2_spec hfr) e
  | exit id =>
    change Q (Option.rec (motive := fun _ => β) (ofO (leave2 T x nt tm (.code (.exit id) :: k) h nx (some (.exit id))) one oth) (fun k' => one (.run x nt tm k' h nx)) (exitA id k)) at q
    simp only [stepCode, stepExit]
    cases hx : exitA id k with
    | none => rw [hx] at q; exact ofO_out (fun c e => leave2_spec e) q
    | some k' => rw [hx] at q; exact one_out rfl q
  | scope body => exact one_out rfl q
  | label l => exact one_out rfl q
  | goto l => exact no_out q
  | ret => exact ofO_out (fun c e => leave2_spec e) q
  | refuse w => exact no_out q
theorem rSome_out {r : ARes} {p : Option (AV → Tm → Tm)} {ops : Array Oper} {o : Oper} {l : List Oper} (hp : p = dstK o.dst nt) (q : Q (rSome r p ops o l k x nt tm h nx T one oth)) :
    Out (applyA T (topA x nt tm (.inRegion ops (o :: l) :: k) .run) (x.rest.map Fr.a) h nx r) one oth Q := by
  cases r with
  | val v h' nx' =>
    refine one_out ?_ q
    subst hp
    simp only [applyA, applyVal, finishA, topA, AFrame.to2, Option.map_some, SR.of, Cf.a, putK_spec]
  | enter f args => exact ofO_out (fun c e => push2_spec (fun fr hfr => enter2_spec hfr) e) q
  | round n args => exact ofS_out (applyR_spec _) q
  | defer d => exact ofS_out (applyR_spec _) q
  | recover => exact ofS_out (applyR_spec _) q
  | panic v => exact ofS_out (applyR_spec _) q
  | alts l => exact ofS_out (applyR_spec _) q
theorem op_out {ops : Array Oper} {o : Oper} {l : List Oper} (q : Q (iRegion ops (o :: l) k x nt tm h nx T one oth)) : Out (stepOp T (topA x nt tm (.inRegion ops (o :: l) :: k) .run) (x.rest.map Fr.a) h nx ops o l k) one oth Q := by
  change Q (Option.rec (motive := fun _ => Array Oper → Oper → List Oper → CK2 β) slowOp fastOp (dig o T nt) ops o l k x nt tm h nx T one oth) at q
  cases hd : dig o T nt with
  | none =>
    rw [hd] at q
    change Q (slowOp ops o l k x nt tm h nx T one oth) at q
    unfold slowOp at q
    unfold stepOp
    simp only [env2_eq] at q
    simp only [topA]
    split at q
    · exact no_out q
    · rename_i t ht
      simp only [ht]
      split at q
      · simp only
        have := applyK_out q
        simp only [topA, applyO] at this
        exact this
      · refine one_out ?_ q
        simp only [Cf.a, topA, putK_spec, AFrame.to2]
  | some d =>
    rw [hd] at q
    obtain ⟨hg, hk, hp⟩ := dig_spec hd
    obtain ⟨g, p⟩ := d
    change Q (Option.rec (motive := fun _ => RK β) (fun _ _ _ _ _ _ _ _ _ _ _ _ oth => oth none) rSome (g tm h nx) p ops o l k x nt tm h nx T one oth) at q
    have hx := opK_spec hk tm h nx
    simp only at hx hp
    unfold stepOp
    simp only [topA, wantedA, hg, ← hx]
    cases hr : g tm h nx with
    | none => rw [hr] at q; exact no_out q
    | some r => rw [hr] at q; exact rSome_out hp q
theorem outT_spec : ∀ (l : List Oper) (V : List DV) (m : Tm), (outT l nt V m).upto nt = outTmps l V (m.upto nt)
  | [], V, m => rfl
  | o :: l, [], m => rfl
  | o :: l, .done v :: V, m => by
    have e1 : outT (o :: l) nt (.done v :: V) m = outT l nt V (put2 nt m o.dst v) := rfl
    have e2 : outTmps (o :: l) (.done v :: V) (m.upto nt) = outTmps l V (putA (m.upto nt) o.dst v) := rfl
    rw [e1, e2, outT_spec l, upto_put]
  | o :: l, .pend :: V, m => rfl
theorem drawn_out {ops : Array Oper} {bf : List Nat} {V : List DV} {w : Option Nat} (q : Q (iDrawn ops bf V w k x nt tm h nx T one oth)) :
    Out (match w with
      | none => stepDrawn T (topA x nt tm (.drawn ops bf V w :: k) .run) (x.rest.map Fr.a) h nx ops bf V k
      | some _ => .fail) one oth Q := by
  unfold iDrawn at q
  cases w with
  | some e => exact no_out q
  | none =>
    simp only at q ⊢
    unfold stepDrawn
    simp only [topA]
    split at q
    case h_2 => exact no_out q
    rename_i st hst
    obtain ⟨V', h', nx'⟩ := st
    simp only [hst]
    simp only at q
    split at q
    case h_2 => exact no_out q
    rename_i hcl
    simp only [hcl]
    split at q
    · rename_i hn
      simp only [hn]
      split at q
      · rename_i had
        simp only [had]
        refine one_out ?_ q
        simp only [Cf.a, topA, AFrame.to2, outT_spec]
      · exact no_out q
    · rename_i e he
      simp only [he]
      unfold drawnEff2 at q
      unfold drawnEff
      split at q
      case h_2 => exact no_out q
      rename_i o ho
      simp only [ho]
      split at q
      case h_2 => exact no_out q
      rename_i be hbe
      simp only [hbe]
      split at q
      case h_2 => exact no_out q
      rename_i hrd
      simp only [hrd]
      split at q
      case h_2 => exact no_out q
      rename_i t ht
      simp only [ht]
      split at q
      case h_2 => exact no_out q
      have := applyK_out q
      simp only [topA, applyO] at this
      simp only [AFrame.to]
      exact this
theorem step2_out {c : Cf} (q : Q (step2 c T one oth)) : Out (stepA T c.a) one oth Q := by
  cases c with
  | out x nt tm todo md h nx =>
    change Q (sOut x nt tm todo md h nx T one oth) at q
    unfold sOut at q
    unfold stepA
    simp only [Cf.a]
    split at q
    · exact no_out q
    · exact ofO_out (fun c e => unwind2_spec e) q
    · exact ofO_out (fun c e => unwind2_spec e) q
  | run x nt tm todo h nx =>
    change Q (sRun x nt tm todo h nx T one oth) at q
    unfold stepA
    simp only [Cf.a]
    show Out (stepRun T (topA x nt tm todo .run) (x.rest.map Fr.a) h nx) one oth Q
    unfold stepRun
    cases todo with
    | nil => exact ofO_out (fun c e => leave2_spec e) q
    | cons i k =>
      change Q (AItem.rec (motive := fun _ => CK2 β) iCode (fun _ => cSkip) iLoop (fun _ => cSkip) iRegion iDrawn (fun _ => cNo) iEndRange iBegin i k x nt tm h nx T one oth) at q
      cases i with
      | code c => exact code_out q
      | inBlock id => exact one_out rfl q
      | inLoop body =>
        simp only [topA, forceL_eq]
        refine one_out ?_ q
        rfl
      | inScope body => exact one_out rfl q
      | inRegion ops l =>
        cases l with
        | nil => exact one_out rfl q
        | cons o l => exact op_out q
      | drawn ops bf V w =>
        have := drawn_out q
        simp only [topA] at this ⊢
        cases w <;> exact this
      | inRange n => exact no_out q
      | endRange n =>
        change Q (iEndRange n k x nt tm h nx T one oth) at q
        unfold iEndRange at q
        unfold stepEndRange
        simp only [topA]
        split at q
        case h_2 => exact no_out q
        rename_i hg
        simp only [hg]
        split at q
        · exact no_out q
        · rename_i hne
          refine one_out ?_ q
          split
          · exact absurd rfl hne
          · rfl
      | beginRound =>
        change Q (iBegin k x nt tm h nx T one oth) at q
        obtain ⟨fn, defers, kind, round, rest⟩ := x
        unfold iBegin at q
        unfold stepBegin
        simp only [topA] at q ⊢
        split at q
        case h_2 => exact no_out q
        split at q
        case h_2 => exact no_out q
        rename_i hg
        simp only [hg]
        split at q
        case h_2 => exact no_out q
        exact one_out rfl q
end
end Go.AM

namespace Go.AM
noncomputable section
/-- one of two, by the choices -/
def pick2 {γ : Type} (l : List Cf) (p : List Bool) (no : γ) (ih : List Bool → Cf → γ) : γ :=
  match l with
  | [a, b] => (match p with
    | t :: p => (match t with
      | true => ih p a
      | false => ih p b)
    | [] => no)
  | _ => no
def othP (T : Tab) (f : Nat) (p : List Bool) (c : Cf) (ih : List Bool → Cf → Bool) (r : Option (List Cf)) : Bool :=
  match r with
  | none => ends2 T f c
  | some l => pick2 l p false ih
/-- along the choices p it ends and says true -/
def pathR (T : Tab) (f : Nat) (n : Nat) : List Bool → Cf → Bool :=
  Nat.rec (motive := fun _ => List Bool → Cf → Bool) (fun _ _ => false) (fun _ ih p c => step2 c T (ih p) (othP T f p c ih)) n
def othS (p : List Bool) (ih : List Bool → Cf → Option Cf) (r : Option (List Cf)) : Option Cf :=
  match r with
  | none => none
  | some l => pick2 l p none ih
/-- n steps along the choices p -/
def pathS (T : Tab) (n : Nat) : List Bool → Cf → Option Cf :=
  Nat.rec (motive := fun _ => List Bool → Cf → Option Cf) (fun _ c => some c) (fun _ ih p c => step2 c T (ih p) (othS p ih)) n

/-! ### fewer blocks -/
def keep (h : Heap) (l : List Nm) : Heap → Heap :=
  List.rec (motive := fun _ => Heap → Heap) (fun a => a) (fun n _ ih a => ih (match h.get n with | some o => a.set (some o) n | none => a)) l
def lay (l : List (Nm × AO)) : Heap → Heap :=
  List.rec (motive := fun _ => Heap → Heap) (fun a => a) (fun p _ ih a => ih (a.set (some p.2) p.1)) l
def calm : List AItem → Bool
  | i :: _ => (match i with | .drawn _ _ _ _ => false | _ => true)
  | [] => true
def trim (l : List Nm) (c : Cf) : Option Cf :=
  match c with
  | .run x nt tm todo h nx => (match calm todo with
    | true => some (.run x nt tm todo (keep h l .leaf) nx)
    | false => none)
  | _ => none
def nmA : Nat → Nat → Nm
  | 0, _ => .e
  | k + 1, n => (match n with
    | 0 => .e
    | n + 1 => (match Nat.beq (Nat.mod n 2) 0 with
      | true => .z (nmA k (Nat.div n 2))
      | false => .s (nmA k (Nat.div n 2))))
/-- the n-th name -/
def nm (n : Nat) : Nm := nmA 20 n
def rl (l : List (Nat × AV)) : List AV := List.rec (motive := fun _ => List AV) [] (fun p _ ih => Nat.rec (motive := fun _ => List AV) ih (fun _ r => p.2 :: r) p.1) l
def n8 (n : Nat) : AV := .int .u8 (Int.ofNat n)
def n64 (n : Nat) : AV := .int .i64 (Int.ofNat n)
def m64 (n : Nat) : AV := .int .i64 (Int.negSucc n)
/-- a part of some code -/
def sub (p : List Bool) (c : Code) : Code :=
  match p with
  | [] => c
  | t :: p => (match c with
    | .seq a b => (match t with | false => sub p a | true => sub p b)
    | .cond _ a b => (match t with | false => sub p a | true => sub p b)
    | .rangeFunc _ _ a b => (match t with | false => sub p a | true => sub p b)
    | .block _ b => sub p b
    | .loop b => sub p b
    | .scope b => sub p b
    | c => c)
def opsOf : Code → Array Oper
  | .region _ ops _ => ops
  | _ => #[]
/-- the n-th operation of some code's region and on -/
def inR (c : Code) (n : Nat) : AItem := .inRegion (opsOf c) (dropN n (opsOf c).toList)
def drawnR (c : Code) (V : List DV) (w : Option Nat) : AItem := .drawn (opsOf c) (befores (opsOf c).toList []) V w
def bodyOf (T : Tab) (f : Nat) : Code := match T.fn f with
  | some a => (match a.body with | some c => c | none => .skip)
  | none => .skip
def start2 (T : Tab) (f : Nat) : Option Cf :=
  match enter2 T f [] .normal with
  | some fr => (match fr with | ⟨fn, nt, tm, todo, defers, _, kind, round⟩ => some (.run ⟨fn, defers, kind, round, []⟩ nt tm todo .leaf .e))
  | none => none
end
section
variable {P : Program} {T : Tab} {B : Nat} {ρ : Ren} {h h' : Heap} {nx : Nm} {w w0 : World} {D : Nat} {own : Own} {cs : List Frame}

/-- wherever the one stands the machine comes to the other -/
def Leads (P : Program) (T : Tab) (c c' : Cf) : Prop := ∀ B cs w0 m, CR P T B cs w0 c.a m → ∃ m', Steps P m m' ∧ CR P T B cs w0 c'.a m'
/-- .. to the end of f, which says true -/
def Lasts (P : Program) (T : Tab) (f : Nat) (c : Cf) : Prop := ∀ B cs w0 m, CR P T B cs w0 c.a m → Ends P B cs w0 f m
theorem Leads.trans {a b c : Cf} (h : Leads P T a b) (k : Leads P T b c) : Leads P T a c := fun B cs w0 m r => by
  obtain ⟨m1, s1, r1⟩ := h B cs w0 m r
  obtain ⟨m2, s2, r2⟩ := k B cs w0 m1 r1
  exact ⟨m2, s1.trans s2, r2⟩
theorem Leads.lasts {f : Nat} {a b : Cf} (h : Leads P T a b) (k : Lasts P T f b) : Lasts P T f a := fun B cs w0 m r => by
  obtain ⟨m1, s1, r1⟩ := h B cs w0 m r
  exact (k B cs w0 m1 r1).of_steps s1
theorem ends2_spec {f : Nat} {c : Cf} (e : ends2 T f c = true) : endsTrue T f c.a = true := by
  cases c with
  | run => cases e
  | out x nt tm todo md h nx =>
    obtain ⟨fn, defers, kind, round, rest⟩ := x
    unfold ends2 over2 at e
    unfold endsTrue overA overF
    simp only [Cf.a, topA] at e ⊢
    cases rest with
    | cons _ _ => cases e
    | nil =>
      simp only [List.map_nil] at e ⊢
      cases md with
      | run => cases e
      | panicking => cases e
      | returning =>
        simp only at e ⊢
        cases defers with
        | cons _ _ => cases e
        | nil =>
          simp only at e ⊢
          cases kind <;> simp only at e ⊢ <;> try (cases e; done)
          cases hb : Nat.beq fn f with
          | false => rw [hb] at e; cases e
          | true =>
            rw [hb] at e
            simp only at e ⊢
            cases hf : T.fn f with
            | none => rw [hf] at e; cases e
            | some a =>
              rw [hf] at e
              simp only at e ⊢
              cases hr : results2 T h nt tm a.results with
              | none => rw [hr] at e; cases e
              | some vs =>
                rw [hr] at e
                rw [results2_spec hr]
                exact e
/-- along the choices p there is a state that G speaks of -/
inductive PathI (T : Tab) (G : Cfg → Prop) : List Bool → Cfg → Prop where
  | done {p : List Bool} {c : Cfg} : G c → PathI T G p c
  | one {p : List Bool} {c c' : Cfg} : stepA T c = .one c' → PathI T G p c' → PathI T G p c
  | left {p : List Bool} {c a b : Cfg} : stepA T c = .alts [a, b] → PathI T G p a → PathI T G (true :: p) c
  | right {p : List Bool} {c a b : Cfg} : stepA T c = .alts [a, b] → PathI T G p b → PathI T G (false :: p) c
theorem paths_goal (K : TabOk P T) (hmix : P.follows .mixedOrders = true) {G : Cfg → Prop} {Goal : Machine → Prop} (hpre : ∀ m m', Steps P m m' → Goal m' → Goal m) (hG : ∀ c m, G c → CR P T B cs w0 c m → Goal m) :
    ∀ (k : Nat) (c : Cfg) (m : Machine), (∀ p : List Bool, p.length = k → PathI T G p c) → CR P T B cs w0 c m → Goal m := by
  intro k
  induction k with
  | zero =>
    intro c m hall r
    have hp : PathI T G [] c := hall [] rfl
    clear hall
    generalize hq : ([] : List Bool) = q at hp
    induction hp generalizing m with
    | done g => exact hG _ _ g r
    | one h1 _ ih =>
      have g := step_go K hmix r
      rw [h1] at g
      obtain ⟨m', s, r'⟩ := g
      exact hpre _ _ s (ih m' r' hq)
    | left => cases hq
    | right => cases hq
  | succ k IH =>
    intro c m hall r
    have hp : PathI T G (List.replicate (k + 1) true) c := hall _ (by simp)
    generalize hq : List.replicate (k + 1) true = q at hp
    clear hq
    induction hp generalizing m with
    | done g => exact hG _ _ g r
    | @one p c c' h1 _ ih =>
      have g := step_go K hmix r
      rw [h1] at g
      obtain ⟨m', s, r'⟩ := g
      by_cases hd : G c
      · exact hG _ _ hd r
      · refine hpre _ _ s (ih m' ?_ r')
        intro p hp
        have := hall p hp
        cases this with
        | done g => exact absurd g hd
        | one h2 h3 => rw [h1] at h2; cases h2; exact h3
        | left h2 => rw [h1] at h2; cases h2
        | right h2 => rw [h1] at h2; cases h2
    | @left p c a b h1 _ ih =>
      have g := step_go K hmix r
      rw [h1] at g
      obtain ⟨c', hc, m', s, r'⟩ := g
      by_cases hd : G c
      · exact hG _ _ hd r
      · refine hpre _ _ s ?_
        simp only [List.mem_cons, List.not_mem_nil, or_false] at hc
        rcases hc with rfl | rfl
        · refine IH _ _ (fun p hp => ?_) r'
          have := hall (true :: p) (by simp [hp])
          cases this with
          | done g => exact absurd g hd
          | one h2 h3 => rw [h1] at h2; cases h2
          | left h2 h3 => rw [h1] at h2; cases h2; exact h3
        · refine IH _ _ (fun p hp => ?_) r'
          have := hall (false :: p) (by simp [hp])
          cases this with
          | done g => exact absurd g hd
          | one h2 h3 => rw [h1] at h2; cases h2
          | right h2 h3 => rw [h1] at h2; cases h2; exact h3
    | @right p c a b h1 _ ih =>
      have g := step_go K hmix r
      rw [h1] at g
      obtain ⟨c', hc, m', s, r'⟩ := g
      by_cases hd : G c
      · exact hG _ _ hd r
      · refine hpre _ _ s ?_
        simp only [List.mem_cons, List.not_mem_nil, or_false] at hc
        rcases hc with rfl | rfl
        · refine IH _ _ (fun p hp => ?_) r'
          have := hall (true :: p) (by simp [hp])
          cases this with
          | done g => exact absurd g hd
          | one h2 h3 => rw [h1] at h2; cases h2
          | left h2 h3 => rw [h1] at h2; cases h2; exact h3
        · refine IH _ _ (fun p hp => ?_) r'
          have := hall (false :: p) (by simp [hp])
          cases this with
          | done g => exact absurd g hd
          | one h2 h3 => rw [h1] at h2; cases h2
          | right h2 h3 => rw [h1] at h2; cases h2; exact h3
theorem pick2_path {γ : Type} {G : Cfg → Prop} {c : Cfg} {l : List Cf} {p : List Bool} {no : γ} {ih : List Bool → Cf → γ} {S : γ → Prop} (hs : stepA T c = .alts (l.map Cf.a)) (hno : ¬ S no) (h : S (pick2 l p no ih)) (hih : ∀ p c, S (ih p c) → PathI T G p c.a) : PathI T G p c := by
  unfold pick2 at h
  split at h
  case h_2 => exact absurd h hno
  split at h
  case h_2 => exact absurd h hno
  split at h
  · exact .left hs (hih _ _ h)
  · exact .right hs (hih _ _ h)
theorem pathR_path {f : Nat} : ∀ {n : Nat} {p : List Bool} {c : Cf}, pathR T f n p c = true → PathI T (fun c => endsTrue T f c = true) p c.a
  | 0, p, c, e => by cases e
  | n + 1, p, c, e => by
    have h2 : step2 c T (β := Bool) (pathR T f n p) (othP T f p c (pathR T f n)) = true := e
    rcases step2_out (Q := fun b => b = true) h2 with ⟨c', s1, s2⟩ | ⟨l, s1, s2⟩ | s2
    · exact .one s1 (pathR_path s2)
    · exact pick2_path (S := fun b => b = true) s1 (by simp) s2 (fun _ _ h => pathR_path h)
    · exact .done (ends2_spec s2)
theorem pathS_path {c1 : Cf} : ∀ {n : Nat} {p : List Bool} {c : Cf}, pathS T n p c = some c1 → PathI T (fun c => c = c1.a) p c.a
  | 0, p, c, e => by cases e; exact .done rfl
  | n + 1, p, c, e => by
    have h2 : step2 c T (β := Option Cf) (pathS T n p) (othS p (pathS T n)) = some c1 := e
    rcases step2_out (Q := fun b => b = some c1) h2 with ⟨c', s1, s2⟩ | ⟨l, s1, s2⟩ | s2
    · exact .one s1 (pathS_path s2)
    · exact pick2_path (S := fun b => b = some c1) s1 (by simp) s2 (fun _ _ h => pathS_path h)
    · cases s2
/-- on each of the ways it ends -/
theorem lasts_paths (K : TabOk P T) (hmix : P.follows .mixedOrders = true) {f : Nat} (k : Nat) {c : Cf} (e : ∀ p : List Bool, p.length = k → ∃ n, pathR T f n p c = true) : Lasts P T f c := by
  intro B cs w0 m r
  refine paths_goal K hmix (G := fun c => endsTrue T f c = true) (fun m m' s g => g.of_steps s) (fun c m g r => over_ends K r g) k c.a m (fun p hp => ?_) r
  obtain ⟨n, h⟩ := e p hp
  exact pathR_path h
theorem PathI.imp {G G' : Cfg → Prop} (hg : ∀ c, G c → G' c) {p : List Bool} {c : Cfg} (h : PathI T G p c) : PathI T G' p c := by
  induction h with
  | done g => exact .done (hg _ g)
  | one h1 _ ih => exact .one h1 ih
  | left h1 _ ih => exact .left h1 ih
  | right h1 _ ih => exact .right h1 ih
/-- on each of the ways it comes to what leads to the one state -/
theorem leads_paths (K : TabOk P T) (hmix : P.follows .mixedOrders = true) (k : Nat) {c c' : Cf} (e : ∀ p : List Bool, p.length = k → ∃ n c1, pathS T n p c = some c1 ∧ Leads P T c1 c') : Leads P T c c' := by
  intro B cs w0 m r
  refine paths_goal K hmix (G := fun c => ∀ m, CR P T B cs w0 c m → ∃ m', Steps P m m' ∧ CR P T B cs w0 c'.a m') (Goal := fun m => ∃ m', Steps P m m' ∧ CR P T B cs w0 c'.a m') ?_ (fun c m g r => g m r) k c.a m (fun p hp => ?_) r
  · rintro m m' s ⟨m1, s1, r1⟩; exact ⟨m1, s.trans s1, r1⟩
  · obtain ⟨n, c1, h1, h2⟩ := e p hp
    exact (pathS_path h1).imp fun c hc m r => by rw [hc] at r; exact h2 _ _ _ _ r

/-! ### fewer blocks -/
theorem keep_sub (h : Heap) : ∀ (l : List Nm) (a : Heap), (∀ n o, a.get n = some o → h.get n = some o) → ∀ n o, (keep h l a).get n = some o → h.get n = some o
  | [], a, ha => ha
  | k :: l, a, ha => by
    have e : keep h (k :: l) a = keep h l (match h.get k with | some o => a.set (some o) k | none => a) := rfl
    rw [e]
    refine keep_sub h l _ ?_
    split
    · rename_i o ho
      intro n o' hn
      by_cases hk : n = k
      · subst hk; rw [get_set_same] at hn; cases hn; exact ho
      · rw [get_set_other _ _ _ _ (Ne.symm hk)] at hn; exact ha n o' hn
    · exact ha
theorem HR.sub (H : HR B ρ h nx w) (hs : ∀ n o, h'.get n = some o → h.get n = some o) : HR B ρ h' nx w := by
  refine ⟨fun n o b c e => H.obj n o b c (hs n o e), fun n m o p b c d e1 e2 => H.inj n m o p b c d (hs n o e1) (hs m p e2), H.low, fun n hn => ⟨?_, (H.fresh n hn).2⟩⟩
  cases hg : h'.get n with
  | none => rfl
  | some o => have := hs n o hg; rw [(H.fresh n hn).1] at this; cases this
theorem calm_TR {act : Bool} {tm : List AV} {ts : Array Value} {k : List AItem} {l : List Item} (r : TR T false own D ρ h nx tm ts k l) (hc : calm k = true) : TR T act own D ρ h' nx tm ts k l := by
  cases r with
  | plain a b => exact .plain a b
  | region a b c => exact .region a b c
  | drawn d e => cases hc
  | inRange a b c => exact .inRange a b c
  | endRange a b c => exact .endRange a b c
theorem trim_leads {l : List Nm} {c c' : Cf} (e : trim l c = some c') : Leads P T c c' := by
  unfold trim at e
  split at e
  case h_2 => cases e
  split at e
  case h_2 => cases e
  rename_i hc
  cases e
  intro B cs w0 m r
  refine ⟨m, .refl _ _, ?_⟩
  obtain ⟨own, ρ, cf, cfs, w, rfl, R, St, H, hB, Tw⟩ := r
  simp only [Cf.a] at R St H ⊢
  refine ⟨own, ρ, cf, cfs, w, rfl, ?_, St, H.sub (keep_sub _ _ _ (fun n o e => by cases n <;> simp [Tr.get] at e)), hB, Tw⟩
  have R' := R.rest (h' := .leaf)
  exact ⟨R.fn, R.kind, R.defers, R.mode, R.round, fun hm => calm_TR (R'.todo hm) hc, R.tmps⟩
/-- n steps along the choices, then fewer blocks -/
noncomputable def pathT (T : Tab) (n : Nat) (p : List Bool) (l : List Nm) (c : Option Cf) : Option Cf := (c.bind (pathS T n p)).bind (trim l)
theorem pathT_leads (K : TabOk P T) (hmix : P.follows .mixedOrders = true) {n : Nat} {l : List Nm} {c c' : Cf} (e : pathT T n [] l (some c) = some c') : Leads P T c c' := by
  refine leads_paths K hmix 0 fun p hp => ?_
  have : p = [] := List.length_eq_zero_iff.1 hp
  subst this
  unfold pathT at e
  rw [Option.bind_some] at e
  obtain ⟨c1, h1, h2⟩ := bind_some e
  exact ⟨n, c1, h1, trim_leads h2⟩
theorem start2_calls (K : TabOk P T) {f : Nat} {c : Cf} (e : start2 T f = some c) (hl : Lasts P T f c) (w : World) : Calls P f #[] w fun e w' => e = .returned (.bool true) ∧ Turn w.heap.size w w' := by
  intro cs
  unfold start2 at e
  split at e
  case h_2 => cases e
  rename_i fr hfr
  obtain ⟨he, hm⟩ := enter2_spec hfr
  obtain ⟨fn, nt, tm, todo, defers, mode, kind, round⟩ := fr
  cases e
  simp only at hm
  subst hm
  obtain ⟨R, _⟩ := enter_rel (own := fun _ => none) (ρ := fun _ => none) (D := 0) (h := .leaf) (nx := .e) K he .nil
  have H : HR w.heap.size (fun _ => none) .leaf .e w := ⟨fun n o b c h => by cases n <;> simp [Tr.get] at h, fun n m o p b c d h => by cases n <;> simp [Tr.get] at h, fun n b c h => by simp at h, fun n _ => ⟨by cases n <;> simp [Tr.get], rfl⟩⟩
  have C : CR P T w.heap.size cs w (Cf.a (.run ⟨fn, defers, kind, round, []⟩ nt tm todo .leaf .e)) (lone (Frame.enter P f #[] .normal) cs w) := ⟨fun _ => none, fun _ => none, _, [], w, rfl, R, .nil, H, Nat.le_refl _, Turn.refl _ _⟩
  obtain ⟨cf, w', s, hf, hl', ht⟩ := hl _ _ _ _ C
  exact ⟨.returned (.bool true), w', cf, ⟨rfl, ht⟩, s, hf, hl'⟩
end
end Go.AM

namespace Go.AM
/-- what the tables say of rows -/
theorem two_rows {α : Type} {F : Nat → Option α} {l : List (List (Option α))} {k : Nat} (h : l = (List.range k).map fun r => (List.range 16).map fun j => F (16 * r + j)) {t : Nat} {a : α}
    (e : twoD l t = some (some a)) : F t = some a := by
  unfold twoD at e
  rw [getN_eq] at e
  have hd : Nat.div t 16 = t / 16 := rfl
  have hm : Nat.mod t 16 = t % 16 := rfl
  rw [hd, hm] at e
  subst h
  rw [List.getElem?_map] at e
  by_cases hk : t / 16 < k
  · rw [List.getElem?_range hk] at e
    simp only [Option.map_some] at e
    rw [getN_eq, List.getElem?_map, List.getElem?_range (Nat.mod_lt t (by omega))] at e
    simp only [Option.map_some] at e
    have : 16 * (t / 16) + t % 16 = t := by omega
    rw [this] at e; exact Option.some.inj e
  · rw [List.getElem?_eq_none (by simp; omega)] at e
    simp at e
theorem ty_two {T : Tab} {t : Nat} {ti : TI} (e : T.ty t = some ti) : twoD T.tys t = some (some ti) := by
  unfold Tab.ty at e
  split at e
  · rename_i o h; rw [h, e]
  · cases e
theorem fn_two {T : Tab} {f : Nat} {a : AFn} (e : T.fn f = some a) : twoD T.fns f = some (some a) := by
  unfold Tab.fn at e
  split at e
  · rename_i o h; rw [h, e]
  · cases e
theorem tabOk_of {P : Program} {T : Tab} {k k' : Nat} (h1 : T.tys = (List.range k).map fun r => (List.range 16).map fun j => tiOf P (16 * r + j)) (h2 : T.fns = (List.range k').map fun r => (List.range 16).map fun j => fnOf P (16 * r + j)) : TabOk P T :=
  ⟨fun t ti e => two_rows h1 (ty_two e), fun f a e => two_rows h2 (fn_two e)⟩
/-- rows, one by one -/
theorem rows_of {α : Type} {F : Nat → α} : ∀ {l : List (List α)} (i : Nat), (∀ (r : Nat) (x : List α), l[r]? = some x → x = (List.range 16).map fun j => F (16 * (i + r) + j)) → l = (List.range l.length).map fun r => (List.range 16).map fun j => F (16 * (i + r) + j)
  | l, i, h => by
    apply List.ext_getElem?
    intro r
    rw [List.getElem?_map]
    by_cases hr : r < l.length
    · rw [List.getElem?_range hr, Option.map_some, List.getElem?_eq_getElem hr, ← h r l[r] (List.getElem?_eq_getElem hr)]
    · rw [List.getElem?_eq_none (by omega), List.getElem?_eq_none (by simp; omega)]; rfl
theorem Turn.kept {w w' : World} (t : Turn w.heap.size w w') (may : MemPlace → Prop) : w.keptBut w' may := by
  refine ⟨t.os, t.output, fun i hi => ?_⟩
  rw [t.block i hi]
  generalize w.heap[i]? = o
  rcases o with _ | o
  · rfl
  · cases o with
    | cells c t fr => exact ⟨rfl, rfl, rfl, fun _ _ => rfl⟩
    | map es clock => exact .inr ⟨rfl, rfl⟩
    | _ => rfl
open Go.ChangeShapes Go.WideShapes in
/-- the row's end, where nothing came in and nothing elder has turned -/
theorem post_of_turn {H : Type} {enc : TypeId × Value → H} {P : Program} {f : Func} {s : ChangeSpec} {apart fresh handsOn again : Bool} {W W' : World} {args : Array Value} {v : Value} {ds gs : List (DataW H)}
    (hW : DataW.Whole enc P f.params.toList s.vars apart W args.toList ds gs [])
    (hres : ∀ (b : Nat) (sp : Nat → Bool) (hd : Bool), DataW.TrodAll enc P W' b sp hd f.resultTypes.toList (v.resultList f.resultTypes.size) (s.fn H (ds ++ gs)).results [])
    (hargs : ∀ sp : Nat → Bool, DataW.TrodAll enc P W' 0 sp true f.params.toList args.toList (s.fn H (ds ++ gs)).args [])
    (hvars : ∀ sp : Nat → Bool, DataW.TrodVars enc P W' sp s.vars (s.fn H (ds ++ gs)).vars [])
    (hk : Turn W.heap.size W W')
    (hok : ∀ (j : Nat) (t : TypeId) (r : Value), f.resultTypes[j]? = some t → (v.resultList f.resultTypes.size)[j]? = some r → Value.okWide P W' .any 0 t r) :
    s.post enc P f apart fresh handsOn again W args v W' := by
  refine ⟨ds, gs, [], [], [], [], hW, hres _ _ _, hargs _, hvars _, World.keptBut_mono (fun p hp => ⟨hp, ?_⟩) (hk.kept _), fun _ => ?_⟩
  · cases hp
  · obtain ⟨_, _, _, _, _, hz, hn⟩ := hW
    refine ⟨hok, _, _, ([] ++ []) ++ [], ⟨[] ++ [], [], trodAll_append (hargs _) (hres _ _ _), hvars _, rfl, ?_, ?_⟩, ?_⟩
    · intro b off hp; simp at hp
    · intro _; simp
    · intro p hp _; simp at hp
end Go.AM

