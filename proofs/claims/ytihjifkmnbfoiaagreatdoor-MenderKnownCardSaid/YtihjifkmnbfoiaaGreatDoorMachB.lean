/- each operation of the machine does what the model does. No condition. -/
import Derived.Test.YtihjifkmnbfoiaaGreatDoorMachA
import Derived.Laws.Tables
import Derived.Laws.IdiomStrings
import Derived.Laws.StandIn
import Derived.Laws.Externs
import Derived.KernelRfl
import Derived.Orders
set_option linter.unusedVariables false
set_option linter.unusedSimpArgs false
namespace Go.AM
section
variable {P : Program} {T : Tab} {B : Nat} {ρ : Ren} {h : Heap} {nx : Nm} {w : World}

/-! ### slicing -/
inductive ON : Option Nat → Option Value → Prop where
  | none : ON none none
  | some (n : Nat) (k : IntKind) : ON (some n) (some (.int k (n : Int)))
theorem optNat_rel {env : Env} {ev : Operand → Value} (E : EvR ρ env ev) {o : Option Operand} {n : Option Nat} (e : optNat env o = some n) : ON n (o.map ev) := by
  cases o with
  | none => simp [optNat] at e; subst e; exact .none
  | some o =>
    simp only [optNat] at e
    split at e
    · rename_i v hv
      simp only [Option.map_eq_some_iff] at e
      obtain ⟨m, hm, rfl⟩ := e
      obtain ⟨k, hk⟩ := nat_rel hm (E o v hv)
      simp only [Option.map_some, hk]
      exact .some m k
    · cases e
theorem run_bound (k : IntKind) (n y : Nat) (code : BoundsCode) (hle : n ≤ y) : (Instr.sliceBound (.int k (n : Int)) y code).run P w = .ok n w := by
  simp [Instr.sliceBound, asIntOf, hle]
theorem run_bounds (isSlice : Bool) (len cap : Nat) {lo hi mx : Option Nat} {vlo vhi vmx : Option Value} (h1 : ON lo vlo) (h2 : ON hi vhi) (h3 : ON mx vmx)
    (hm : mx.getD cap ≤ cap) (hh : hi.getD len ≤ mx.getD cap ∨ hi = none) (hl : lo.getD 0 ≤ hi.getD len) (hs : hi.isSome = true ∨ mx = none) :
    (Instr.sliceBounds isSlice len cap vlo vhi vmx).run P w = .ok (lo.getD 0, hi.getD len, mx.getD cap) w := by
  unfold Instr.sliceBounds
  cases h3 with
  | none =>
    simp only [Option.getD_none] at hm hh
    cases h2 with
    | none =>
      simp only [Option.getD_none] at hl
      cases h1 with
      | none => simp
      | some l kl => simp only [Option.getD_some] at hl; simp [run_bound kl l len _ hl]
    | some hh' kh =>
      simp only [Option.getD_some] at hl hh
      have hh2 : hh' ≤ cap := by rcases hh with h | h; exact h; cases h
      cases h1 with
      | none => simp [run_bound kh hh' cap _ hh2]
      | some l kl => simp only [Option.getD_some] at hl; simp [run_bound kh hh' cap _ hh2, run_bound kl l hh' _ hl]
  | some m km =>
    simp only [Option.getD_some] at hm hh
    cases h2 with
    | none => rcases hs with h | h <;> cases h
    | some hh' kh =>
      simp only [Option.getD_some] at hl hh
      have hh2 : hh' ≤ m := by rcases hh with h | h; exact h; cases h
      cases h1 with
      | none => simp [run_bound km m cap _ hm, run_bound kh hh' m _ hh2]
      | some l kl => simp only [Option.getD_some] at hl; simp [run_bound km m cap _ hm, run_bound kh hh' m _ hh2, run_bound kl l hh' _ hl]
theorem ble_iff (a b : Nat) : Nat.ble a b = true ↔ a ≤ b := by rw [Nat.ble_eq]
theorem beq_iff (a b : Nat) : Nat.beq a b = true ↔ a = b := by rw [Nat.beq_eq]
theorem isZ_iff (n : Nat) : isZ n = true ↔ n = 0 := by cases n <;> simp [isZ]

theorem slcOff (m l : Nat) (b off sz : Nat) : (if m = l then (⟨b, off, none⟩ : Addr) else Addr.add ⟨b, off, none⟩ (l * sz)) = ⟨b, (match Nat.beq m l with | true => off | false => Nat.add off (Nat.mul l sz)), none⟩ := by
  cases hb : Nat.beq m l
  · rw [if_neg (Nat.ne_of_beq_eq_false hb), add_eq]; rfl
  · rw [if_pos (Nat.eq_of_beq_eq_true hb)]

theorem sem_slice (K : TabOk P T) {t : TypeId} {x v : AV} {c : Value} {lo hi mx : Option Nat} {vlo vhi vmx : Option Value} (e : sliceA T t x lo hi mx = some v) (r : VR ρ x c)
    (h1 : ON lo vlo) (h2 : ON hi vhi) (h3 : ON mx vmx) : Gives P ρ w v (Instr.sliceAt t c vlo vhi vmx) := by
  unfold sliceA at e
  split at e
  case h_2 => cases e
  rename_i ti ht
  obtain ⟨i, z, dt, hi', hs, hby, hz, hzf, hz0, hu, hk, ha, hfk⟩ := K.get ht
  split at e
  · rename_i hd
    rw [hd] at hk; cases kind_str hk
    split at e
    · cases r
      rename_i s
      unfold sliceStr at e
      simp only at e
      split at e
      · rename_i hc
        simp only [Bool.and_eq_true, ble_iff, size_len] at hc
        obtain ⟨⟨hn, hh⟩, hl⟩ := hc
        simp only [Option.isNone_iff_eq_none] at hn
        subst hn
        cases h3
        rw [size_len] at e
        simp only [Option.map_eq_some_iff] at e
        obtain ⟨l, hx, rfl⟩ := e
        obtain ⟨_, rfl⟩ := takeX_some hx
        have hb := run_bounds (P := P) (w := w) false s.size s.size h1 h2 .none (Nat.le_refl _) (.inl hh) hl (.inr rfl)
        refine .of (c := .string (s.extract (lo.getD 0) (hi.getD s.size))) ?_ ?_
        · simp only [Instr.sliceAt, Sem.run_bind, run_und w hu, Result.andThen_ok, Instr.slice]
          simp [hb]
        · rw [dropN_eq, ← List.map_drop, ← List.map_take]
          have : (List.take (Nat.sub (hi.getD s.size) (lo.getD 0)) (List.drop (lo.getD 0) s.data.toList)) = (s.extract (lo.getD 0) (hi.getD s.size)).data.toList := by
            rw [ByteArray.data_extract, Array.toList_extract, List.extract_eq_take_drop]; rfl
          rw [this]; exact .str _
      · cases e
    · cases e
  · rename_i el hd
    rw [hd] at hk; cases kind_slice hk
    split at e
    case h_2 => cases e
    rename_i te hte
    obtain ⟨ie, ze, de, hie, hse, hbe, hze, hzfe, hz0e, hue, _⟩ := K.get hte
    split at e
    · rename_i b off len cap
      cases r with
      | slc _ _ _ hn =>
        unfold sliceSlc at e
        simp only at e
        split at e
        · rename_i hc
          simp only [Bool.and_eq_true, ble_iff, Bool.or_eq_true, Option.isNone_iff_eq_none] at hc
          obtain ⟨⟨⟨hm, hh⟩, hl⟩, hs'⟩ := hc
          cases e
          have hb := run_bounds (P := P) (w := w) true len cap h1 h2 h3 hm (.inl hh) hl hs'
          refine .of (c := .slice (some ⟨_, _, none⟩) _ _) ?_ (.slc _ _ _ hn)
          · simp only [Instr.sliceAt, Sem.run_bind, run_und w hu, Result.andThen_ok, Instr.slice, hb, run_size w hie, hse, Sem.run_pure]
            cases hq : Nat.beq (mx.getD cap) (lo.getD 0)
            · simp only [if_neg (Nat.ne_of_beq_eq_false hq), add_eq, Option.map_some]; rfl
            · simp only [if_pos (Nat.eq_of_beq_eq_true hq)]; rfl
        · cases e
    · rename_i b off len sz
      split at e
      · rename_i hsz
        have hsz' : te.size = sz := Nat.eq_of_beq_eq_true hsz
        subst hsz'
        cases r with
        | slu _ _ _ cap hn hle hcap =>
          rename_i bb cc
          unfold sliceSlu at e
          simp only at e
          split at e
          · rename_i m
            split at e
            · rename_i hc
              simp only [Bool.and_eq_true, ble_iff] at hc
              obtain ⟨⟨⟨hm, hh⟩, hl⟩, hs'⟩ := hc
              cases e
              have hb := run_bounds (P := P) (w := w) true len cap h1 h2 h3 (by simp; omega) (.inl hh) hl (.inl hs')
              refine .of (c := .slice (some ⟨_, _, none⟩) _ _) ?_ (.slc _ _ _ hn)
              · simp only [Instr.sliceAt, Sem.run_bind, run_und w hu, Result.andThen_ok, Instr.slice, hb, run_size w hie, hse, Sem.run_pure]
                cases hq : Nat.beq m (lo.getD 0)
                · simp only [Option.getD_some, if_neg (Nat.ne_of_beq_eq_false hq), add_eq, Option.map_some]; rfl
                · simp only [Option.getD_some, if_pos (Nat.eq_of_beq_eq_true hq)]; rfl
            · cases e
          · split at e
            · rename_i hc
              simp only [Bool.and_eq_true, ble_iff] at hc
              obtain ⟨hh, hl⟩ := hc
              have hb := run_bounds (P := P) (w := w) true len cap h1 h2 h3 (by simp) (.inl (by simp; omega)) hl (.inr rfl)
              simp only [Option.getD_none] at hb
              split at e
              · rename_i hl0
                cases e
                rw [hl0] at hb
                refine .of (c := .slice (some ⟨_, off, none⟩) _ _) ?_ (.slu _ _ _ cap hn (by omega) hcap)
                simp only [Instr.sliceAt, Sem.run_bind, run_und w hu, Result.andThen_ok, Instr.slice, hb, run_size w hie, hse, Sem.run_pure]
                simp [Addr.add]
              · rename_i l' hl0
                rw [hl0] at hb hl
                split at e
                · rename_i hlt
                  rw [ble_iff] at hlt
                  cases e
                  have hne : ¬ cap = l' + 1 := by omega
                  refine .of (c := .slice (some ⟨_, off + (l' + 1) * te.size, none⟩) _ (cap - (l' + 1))) ?_ (.slu _ _ _ _ hn (by show hi.getD len - (l' + 1) ≤ _; omega) ?_)
                  · simp only [Instr.sliceAt, Sem.run_bind, run_und w hu, Result.andThen_ok, Instr.slice, hb, run_size w hie, hse, Sem.run_pure]
                    simp [hne, add_eq]
                  · show off + (l' + 1) * te.size + (cap - (l' + 1)) * te.size = _
                    rw [← hcap, Nat.add_assoc, ← Nat.add_mul]
                    congr 2
                    omega
                · rename_i hlt
                  have hlt' : ¬ l' + 2 ≤ len := by rw [← ble_iff, hlt]; simp
                  cases e
                  have : hi.getD len - (l' + 1) = 0 := by omega
                  refine .of (c := .slice (some (if cap = l' + 1 then ⟨bb, off, none⟩ else Addr.add ⟨bb, off, none⟩ ((l' + 1) * te.size))) 0 (cap - (l' + 1))) ?_ (.slz _ _)
                  simp only [Instr.sliceAt, Sem.run_bind, run_und w hu, Result.andThen_ok, Instr.slice, hb, run_size w hie, hse, Sem.run_pure, this]
                  simp only [Option.map_some]
                  split <;> rfl
            · cases e
      · cases e
    · rename_i b
      split at e
      · rename_i hc
        simp only [Bool.and_eq_true, sliceNil, isZ_iff, Option.isNone_iff_eq_none] at hc
        obtain ⟨⟨⟨hl, hh⟩, _⟩, hmx⟩ := hc
        cases e
        subst hmx
        cases r with
        | slz a cap =>
          have hh' : hi.getD 0 = 0 := hh
          have hb := run_bounds (P := P) (w := w) true 0 cap h1 h2 h3 (by simp) (.inl (by rw [hh']; simp)) (by omega) (.inr rfl)
          rw [hl, hh'] at hb
          simp only [Option.getD_none] at hb
          refine .of (c := .slice (some a) 0 cap) ?_ (.slz _ _)
          simp only [Instr.sliceAt, Sem.run_bind, run_und w hu, Result.andThen_ok, Instr.slice, hb, run_size w hie, hse, Sem.run_pure]
          simp [Addr.add]
      · cases e
    · split at e
      · rename_i hc
        simp only [Bool.and_eq_true, sliceNil, isZ_iff, Bool.or_eq_true, Option.isNone_iff_eq_none] at hc
        obtain ⟨⟨⟨hl, hh⟩, hm⟩, hs'⟩ := hc
        cases e
        cases r
        have hb := run_bounds (P := P) (w := w) true 0 0 h1 h2 h3 (by omega) (.inl (by omega)) (by omega) hs'
        rw [hl, hh, hm] at hb
        refine .of (c := .slice none 0 0) ?_ .nilslc
        simp only [Instr.sliceAt, Sem.run_bind, run_und w hu, Result.andThen_ok, Instr.slice, hb, run_size w hie, hse, Sem.run_pure]
        simp
      · cases e
    · cases e
  · rename_i n el hd
    rw [hd] at hk; cases kind_arr hk
    split at e
    case h_2 => cases e
    rename_i te hte
    obtain ⟨ie, ze, de, hie, hse, hbe, hze, hzfe, hz0e, hue, _⟩ := K.get hte
    split at e
    · rename_i b off
      cases r with
      | ptr _ hn =>
        unfold sliceSlc at e
        simp only at e
        split at e
        · rename_i hc
          simp only [Bool.and_eq_true, ble_iff, Bool.or_eq_true, Option.isNone_iff_eq_none] at hc
          obtain ⟨⟨⟨hm, hh⟩, hl⟩, hs'⟩ := hc
          cases e
          have hb := run_bounds (P := P) (w := w) false n n h1 h2 h3 hm (.inl hh) hl hs'
          refine .of (c := .slice (some ⟨_, _, none⟩) _ _) ?_ (.slc _ _ _ hn)
          · simp only [Instr.sliceAt, Sem.run_bind, run_und w hu, Result.andThen_ok, Instr.sureAddr, hb, run_size w hie, hse, Sem.run_pure]
            cases hq : Nat.beq (mx.getD n) (lo.getD 0)
            · simp only [if_neg (Nat.ne_of_beq_eq_false hq), add_eq]; rfl
            · simp only [if_pos (Nat.eq_of_beq_eq_true hq)]; rfl
        · cases e
    · cases e
  · cases e
end
end Go.AM

namespace Go.AM
section
variable {P : Program} {T : Tab} {B : Nat} {ρ : Ren} {h : Heap} {nx : Nm} {w : World}

theorem sem_move {v : AV} {c : Value} (r : VR ρ v c) : Gives P ρ w v (pure c) := .of (by simp) r
theorem sem_pick {a b c : Option AV} {v : AV} {x y z : Value} (e : opPick c a b = some v) (rc : ∀ u, c = some u → VR ρ u x) (ra : ∀ u, a = some u → VR ρ u y) (rb : ∀ u, b = some u → VR ρ u z) :
    Gives P ρ w v (do pure (if ← asBool x then y else z)) := by
  unfold opPick at e
  split at e
  · rename_i t
    have := rc _ rfl
    cases this
    split at e
    · exact .of (c := y) (by simp [asBool]) (ra _ e)
    · exact .of (c := z) (by simp [asBool]) (rb _ e)
  · cases e

/-! ### parts of an aggregate that is built -/
theorem fold_over : ∀ (vs : List Value) (off : Nat) (cs : List Value), off + vs.length ≤ cs.length →
    ((vs.zipIdx off).foldl (fun (a : Array Value) (p : Value × Nat) => a.setIfInBounds p.2 p.1) cs.toArray).toList = cs.take off ++ vs ++ cs.drop (off + vs.length)
  | [], off, cs, h => by simp
  | v :: vs, off, cs, h => by
    rw [List.zipIdx_cons, List.foldl_cons]
    have : (cs.toArray.setIfInBounds off v) = (cs.set off v).toArray := by simp
    rw [this, fold_over vs (off + 1) (cs.set off v) (by simp at h ⊢; omega)]
    have hlt : off < cs.length := by simp at h; omega
    apply List.ext_getElem?
    intro i
    simp only [List.append_assoc, List.getElem?_append, List.length_take, List.length_set, List.getElem?_take, List.getElem?_set, List.getElem?_drop, List.length_cons]
    by_cases h1 : i < off
    · simp [show i < min (off + 1) cs.length by omega, show i < min off cs.length by omega, show i < off + 1 by omega, h1, show ¬ off = i by omega]
    · by_cases h2 : i = off
      · subst h2
        simp [show i < min (i + 1) cs.length by omega, show ¬ i < min i cs.length by omega, show min i cs.length = i by omega, hlt]
      · have e1 : min (off + 1) cs.length = off + 1 := by omega
        have e2 : min off cs.length = off := by omega
        simp only [e1, e2, show ¬ i < off + 1 by omega, show ¬ i < off by omega, if_false]
        rw [show i - off = (i - (off + 1)) + 1 by omega]
        simp only [List.getElem?_cons_succ]
        simp only [Nat.add_lt_add_iff_right]
        by_cases h3 : i - (off + 1) < vs.length
        · simp [h3]
        · simp only [h3, if_false]
          rw [if_neg (by omega)]
          congr 1
          omega
theorem fold_zip (vs : Array Value) (off : Nat) (cs : List Value) (h : off + vs.size ≤ cs.length) :
    (vs.zipIdx.foldl (fun cs (c, j) => cs.setIfInBounds (off + j) c) cs.toArray) = (cs.take off ++ vs.toList ++ cs.drop (off + vs.size)).toArray := by
  have := fold_over vs.toList off cs (by simpa using h)
  apply Array.toList_inj.1
  rw [← Array.foldl_toList, Array.toList_zipIdx]
  rw [show (cs.take off ++ vs.toList ++ cs.drop (off + vs.size)).toArray.toList = cs.take off ++ vs.toList ++ cs.drop (off + vs.toList.length) by simp, ← this]
  congr 1
  rw [show (vs.toList.zipIdx off) = (vs.toList.zipIdx 0).map (fun p => (p.1, off + p.2)) by
    apply List.ext_getElem?
    intro i
    simp [List.getElem?_zipIdx]
    rfl]
  rw [List.foldl_map]
theorem LR.over {α β : Type} {R : α → β → Prop} {l : List α} {m : List β} (h : LR R l m) {xs : List α} {ys : List β} (k : LR R xs ys) (off : Nat) :
    LR R (l.take off ++ xs ++ l.drop (off + xs.length)) (m.take off ++ ys ++ m.drop (off + ys.length)) := by
  rw [k.length]
  exact ((h.take off).append k).append (h.drop _)
def PR (ρ : Ren) (p : Nat × AV) (q : Nat × Value) : Prop := p.1 = q.1 ∧ VR ρ p.2 q.2
theorem fillA_cons (pl : Nat → Option (Nat × Nat)) (p : Nat × AV) (ps : List (Nat × AV)) (cells : List AV) : fillA pl (p :: ps) cells = (match pl p.1 with
    | some q => (match cellsA p.2 with
      | some vs => (match Nat.beq (lenL vs) q.2 with
        | true => (over cells q.1 vs).bind (fillA pl ps)
        | false => none)
      | none => none)
    | none => none) := rfl
theorem fill_rel {pl place : Nat → Option (Nat × Nat)} (hp : ∀ i q, pl i = some q → place i = some q) {ps : List (Nat × AV)} {qs : List (Nat × Value)} (rp : LR (PR ρ) ps qs) :
    ∀ {cells out : List AV} {ds : List Value}, fillA pl ps cells = some out → VsR ρ cells ds → ∃ ds', Instr.fill place ds.toArray qs = some ds'.toArray ∧ VsR ρ out ds' := by
  induction rp with
  | nil => intro cells out ds e r; cases e; exact ⟨ds, rfl, r⟩
  | cons r0 _ ih =>
    rename_i p q ps qs _
    intro cells out ds e r
    rw [fillA_cons] at e
    split at e
    · rename_i pq hpq
      split at e
      · rename_i vs hvs
        split at e
        · rename_i hl
          rw [beq_iff, lenL_eq] at hl
          cases ho : over cells pq.1 vs with
          | none => rw [ho] at e; cases e
          | some c2 =>
            rw [ho] at e
            obtain ⟨h1, h2⟩ := over_some ho
            have rv := r0.2.cells hvs
            have hlen : q.2.cells.size = vs.length := by rw [rv.length]; simp
            have hcl := r.length
            obtain ⟨q1, q2⟩ := q
            have r01 : p.1 = q1 := r0.1
            simp only at hlen rv
            have := fold_zip q2.cells pq.1 ds (by rw [hlen]; omega)
            have hr2 : VsR ρ c2 (ds.take pq.1 ++ q2.cells.toList ++ ds.drop (pq.1 + q2.cells.size)) := by
              rw [h2, show q2.cells.size = q2.cells.toList.length by simp]
              exact r.over rv pq.1
            obtain ⟨ds', h3, h4⟩ := ih (cells := c2) (out := out) e hr2
            refine ⟨ds', ?_, h4⟩
            simp only [Instr.fill]
            rw [← r01, hp _ _ hpq]
            simp only
            rw [if_neg (by simp [hlen]; omega), this]
            exact h3
        · cases e
      · cases e
    · cases e
theorem parts_rel {env : Env} {ev : Operand → Value} (E : EvR ρ env ev) : ∀ {l : List (Nat × Operand)} {ps : List (Nat × AV)}, evParts env l = some ps → LR (PR ρ) ps (l.map fun p => (p.1, ev p.2))
  | [], ps, e => by cases e; exact .nil
  | p :: l, ps, e => by
    have e' : (match evl env p.2 with | some v => (evParts env l).map ((p.1, v) :: ·) | none => none) = some ps := e
    split at e'
    · rename_i v hv
      simp only [Option.map_eq_some_iff] at e'
      obtain ⟨us, hus, rfl⟩ := e'
      exact .cons ⟨rfl, E _ _ hv⟩ (parts_rel E hus)
    · cases e'
theorem mapM_info : ∀ (fs : List Field), (fs.all fun f => (P.info? f.type).isSome) = true → fs.mapM (fun f => (P.info? f.type).map fun i => (f.offset, i.size)) = some (fs.map fun f => (f.offset, P.cellsOf f.type))
  | [], _ => by simp
  | f :: fs, h => by
    simp only [List.all_cons, Bool.and_eq_true] at h
    obtain ⟨i, hi⟩ := Option.isSome_iff_exists.1 h.1
    have hc : P.cellsOf f.type = i.size := by simp [Program.cellsOf, hi]
    simp [List.mapM_cons, hi, mapM_info fs h.2, hc]
theorem sem_build (K : TabOk P T) {t : TypeId} {ps : List (Nat × AV)} {qs : Array (Nat × Value)} {v : AV} (e : opBuild T t ps = some v) (r : LR (PR ρ) ps qs.toList) : Gives P ρ w v (Instr.build t qs) := by
  unfold opBuild at e
  split at e
  case h_2 => cases e
  rename_i ti ht
  obtain ⟨i, z, dt, hi, hs, hby, hz, hzf, hz0, hu, hk, ha, hfk⟩ := K.get ht
  have hzr := zeroOf_rel (ρ := ρ) z
  split at e
  · rename_i fs hd
    rw [hd] at hk
    obtain ⟨fields, rfl, rfl⟩ := kind_struct hk
    simp only [Option.map_eq_some_iff] at e
    obtain ⟨out, hf, rfl⟩ := e
    rw [hz0] at hf
    have hp : ∀ j q, placeS (fields.toList.map fun f => (f.offset, P.cellsOf f.type, f.type)) j = some q → (fields.toList.map fun f => (f.offset, P.cellsOf f.type)).toArray[j]? = some q := by
      intro j q hq
      unfold placeS at hq
      rw [getN_eq] at hq
      simp only [List.getElem?_map, Option.map_map, Option.map_eq_some_iff] at hq
      obtain ⟨f, hf, rfl⟩ := hq
      simp only [List.getElem?_toArray, List.getElem?_map, hf]; rfl
    obtain ⟨ds', h1, h2⟩ := fill_rel hp r hf hzr
    refine .of (c := .agg ds'.toArray) (run_build w t qs _ ?_) (.agg h2)
    have hall : (fields.toList.all fun f => (P.info? f.type).isSome) = true := by
      have := hfk; simp only [fieldsKnown] at this; simpa using this
    simp only [Program.built, hi, hu, hz, mapM_info _ hall]
    exact h1
  · rename_i n el hd
    rw [hd] at hk; cases kind_arr hk
    split at e
    case h_2 => cases e
    rename_i te hte
    obtain ⟨ie, ze, de, hie, hse, hbe, hze, hzfe, hz0e, hue, _⟩ := K.get hte
    simp only [Option.map_eq_some_iff] at e
    obtain ⟨out, hf, rfl⟩ := e
    rw [hz0] at hf
    have hp : ∀ j q, placeA te.size j = some q → (fun i => some (i * ie.size, ie.size)) j = some q := by
      intro j q hq
      simp only [placeA] at hq
      simp only [hse, hq]
    obtain ⟨ds', h1, h2⟩ := fill_rel hp r hf hzr
    refine .of (c := .agg ds'.toArray) (run_build w t qs _ ?_) (.agg h2)
    simp only [Program.built, hi, hu, hz, hie]
    simpa using h1
  · cases e

/-! ### bytes -/
theorem byte_rel {a : AV} {n : Nat} {v : Value} (e : byteOf a = some n) (r : VR ρ a v) : v = .int .u8 (n : Int) ∧ n ≤ 255 := by
  unfold byteOf at e
  split at e
  · split at e
    · split at e
      · split at e
        · rename_i hle
          cases e; cases r
          exact ⟨rfl, Nat.le_of_ble_eq_true hle⟩
        · cases e
      · cases e
    · cases e
  · cases e
theorem bytes_rel : ∀ {l : List AV} {ns : List Nat} {ds : List Value}, bytesOfCells l = some ns → VsR ρ l ds → ds = (ns.map Int.ofNat).map (Value.int .u8) ∧ ∀ n ∈ ns, n ≤ 255
  | [], ns, ds, e, r => by cases e; cases r; simp
  | a :: l, ns, ds, e, r => by
    have e' : (match byteOf a with | some n => (bytesOfCells l).map (n :: ·) | none => none) = some ns := e
    split at e'
    · rename_i n hn
      simp only [Option.map_eq_some_iff] at e'
      obtain ⟨us, hus, rfl⟩ := e'
      cases r with
      | cons r1 r2 =>
        obtain ⟨h1, h2⟩ := byte_rel hn r1
        obtain ⟨h3, h4⟩ := bytes_rel hus r2
        subst h1; subst h3
        exact ⟨rfl, by simpa using ⟨h2, h4⟩⟩
    · cases e'
theorem push_bytes : ∀ (ns : List Nat) (s : ByteArray), (∀ n ∈ ns, n ≤ 255) → (((ns.map Int.ofNat).foldl (fun r n => r.push (UInt8.ofNat n.toNat)) s).data.toList.map UInt8.toNat) = s.data.toList.map UInt8.toNat ++ ns
  | [], s, h => by simp
  | n :: ns, s, h => by
    simp only [List.map_cons, List.foldl_cons]
    rw [push_bytes ns _ (fun m hm => h m (by simp [hm]))]
    have : n ≤ 255 := h n (by simp)
    simp [ByteArray.push, UInt8.toNat_ofNat']
    omega
theorem sem_convBytes (H : HR B ρ h nx w) {a v : AV} {c : Value} (e : convBytes h a = some v) (r : VR ρ a c) : Gives P ρ w v (Conv.bytesToString c) := by
  have main : ∀ (n : Nm) (b cc off l : Nat) (cp : Nat), ρ n = some (b, cc) → ((loadCells h n off l).bind bytesOfCells).map AV.str = some v → Gives P ρ w v (Conv.bytesToString (.slice (some ⟨b, off, none⟩) l cp)) := by
    intro n b cc off l cp hn e
    simp only [Option.map_eq_some_iff, Option.bind_eq_some_iff] at e
    obtain ⟨ns, ⟨xs, hx, hb⟩, rfl⟩ := e
    obtain ⟨ds, h1, h2, h3, _⟩ := load_list (P := P) H hx hn
    obtain ⟨rfl, h5⟩ := bytes_rel hb h1
    have := run_bytesToString (P := P) w ⟨b, off, none⟩ l cp _ h3
    refine .of this ?_
    have hp := push_bytes ns ByteArray.empty h5
    have hz : (ByteArray.empty.data.toList.map UInt8.toNat ++ ns) = ns := rfl
    rw [hz] at hp
    have key : ∀ (s : ByteArray) (m : List Nat), s.data.toList.map UInt8.toNat = m → VR ρ (.str m) (.string s) := fun s m e => by rw [← e]; exact .str s
    exact key _ _ hp
  unfold convBytes at e
  split at e
  · cases e; cases r; exact .of (c := .string .empty) (by simp [Conv.bytesToString]) (.str ByteArray.empty)
  · cases e; cases r
    rename_i a cap
    refine .of (c := .string .empty) ?_ (.str ByteArray.empty)
    have := run_bytesToString (P := P) w a 0 cap [] (by simp [Go.loadCells, loadCellsFrom])
    simpa using this
  · cases r with
    | slc _ _ _ hn => exact main _ _ _ _ _ _ hn e
  · cases r with
    | slu _ _ _ _ hn _ _ => exact main _ _ _ _ _ _ hn e
  · cases e
end
end Go.AM

namespace Go.AM

/-- the operation makes a block, whatever there is and whatever the name -/
def Form (f : Heap → Nm → Option ARes) (mk : Nm → AV) (a : AO) : Prop := ∀ h nx, f h nx = some (.val (mk nx) (h.set (some a) nx) nx.succ)
/-- s makes this block -/
def Makes (P : Program) (ρ : Ren) (w : World) (mk : Nm → AV) (a : AO) (s : Sem Value) : Prop :=
  ∃ c o k w', s.run P w = .ok c w' ∧ w'.heap = w.heap.push o ∧ w'.os = w.os ∧ w'.tape = w.tape ∧ w'.output = w.output ∧
    ∀ n, ρ n = none → VR (ρ.put n (w.heap.size, k)) (mk n) c ∧ OR (ρ.put n (w.heap.size, k)) a (some o) k

theorem free00 (c : Nat) : Free c (0, 0) := .inl rfl
theorem Free.at {c : Nat} {fr : Nat × Nat} (f : Free c fr) {i : Nat} (h : i < c) : (decide (fr.1 ≤ i) && decide (i < fr.2)) = false := by
  rcases f with f | f
  · rw [Bool.and_eq_false_iff]; simp; omega
  · rw [Bool.and_eq_false_iff]; simp; omega

section
variable {P : Program} {T : Tab} {B : Nat} {ρ : Ren} {h : Heap} {nx : Nm} {w : World}

theorem range_mod (l : List Value) : ∀ (c : Nat), ((List.range (c * l.length)).map fun i => l.toArray[i % l.toArray.size]!) = (List.replicate c l).flatten
  | 0 => by simp
  | c + 1 => by
    rw [Nat.succ_mul, List.range_add, List.map_append, range_mod l c, List.replicate_succ', List.flatten_append]
    congr 1
    simp only [List.map_map, List.flatten_cons, List.flatten_nil, List.append_nil]
    apply List.ext_getElem?
    intro i
    by_cases hi : i < l.length
    · simp only [List.getElem?_map, List.getElem?_range hi, Option.map_some, Function.comp, List.size_toArray]
      rw [Nat.mul_add_mod_self_right, Nat.mod_eq_of_lt hi]
      simp [hi]
    · rw [List.getElem?_eq_none (by simp; omega), List.getElem?_eq_none (by omega)]
theorem range_mod' (l : List Value) (c : Nat) : ((Array.range (c * l.length)).map fun i => l.toArray[i % l.toArray.size]!) = (List.replicate c l).flatten.toArray := by
  rw [← range_mod]
  apply Array.toList_inj.1
  simp
theorem replicateL_eq {α : Type} (z : List α) : ∀ n, replicateL z n = (List.replicate n z).flatten
  | 0 => rfl
  | n + 1 => by rw [replicateL_succ, replicateL_eq z n, List.replicate_succ, List.flatten_cons]
theorem LR.rep {α β : Type} {R : α → β → Prop} {l : List α} {m : List β} (h : LR R l m) : ∀ n, LR R (replicateL l n) (List.replicate n m).flatten
  | 0 => .nil
  | n + 1 => by rw [replicateL_succ, List.replicate_succ, List.flatten_cons]; exact h.append (LR.rep h n)
theorem TabOk.zsize (K : TabOk P T) {t : TypeId} {ti : TI} (e : T.ty t = some ti) {i : TypeInfo} {z : Value} (hi : P.info? t = some i) (hz : i.zero = some z) : z.cells.size = i.size := by
  obtain ⟨i', z', h1, _, _, h2, _, _, h3⟩ := (K.tyOk e).info
  rw [hi] at h1; cases h1
  rw [hz] at h2; cases h2
  exact h3
/-- a new row of cells -/
theorem makes_row {t : TypeId} {vs : List AV} {cs : List Value} (r : VsR ρ vs cs) {mk : Nm → AV} {cv : Nat → Value} {s : Sem Value} {w' : World}
    (hr : s.run P w = .ok (cv w.heap.size) w') (h1 : w'.heap = w.heap.push (.cells cs.toArray t)) (h2 : w'.os = w.os) (h3 : w'.tape = w.tape) (h4 : w'.output = w.output)
    (hv : ∀ σ n b, σ n = some (b, cs.length) → VR σ (mk n) (cv b)) : Makes P ρ w mk (.cells vs t) s := by
  refine ⟨_, _, cs.length, w', hr, h1, h2, h3, h4, fun n hn => ⟨hv _ n _ (Ren.put_same _ _ _), ?_⟩⟩
  have := OR.cells (ρ := ρ.put n (w.heap.size, cs.length)) (vs := vs) (t := t) (cs := cs.toArray) (fr := (0, 0)) (ds := cs) (rest := []) (by simp) (VsR.mono (Ren.le_put _ hn) r) (free00 _)
  simpa using this

theorem make_alloc (K : TabOk P T) {t : TypeId} {r : ARes} (e : opAlloc T h nx t = some r) : ∃ mk a, Form (fun h nx => opAlloc T h nx t) mk a ∧ Makes P ρ w mk a (Instr.alloc t true (.tuple #[])) := by
  unfold opAlloc at e
  simp only [Option.map_eq_some_iff] at e
  obtain ⟨ti, ht, _⟩ := e
  obtain ⟨i, z, d, hi, hs, hby, hz, hzf, hz0, hu, hk, ha, hfk⟩ := K.get ht
  refine ⟨fun n => .ptr n 0, .cells ti.zero t, fun h nx => by simp [opAlloc, ht, newCells], ?_⟩
  refine makes_row (cs := z.cells.toList) (by rw [hz0]; exact zeroOf_rel z) (cv := fun b => .pointer (some ⟨b, 0, none⟩)) (w' := w.alloc (.cells z.cells t)) ?_ rfl rfl rfl rfl (fun σ n b hn => .ptr 0 hn)
  simp [Instr.alloc, run_zero w hi hz, newVar, newRow, newObj, Sem.run]
theorem make_box {t : TypeId} {a : AV} {c : Value} {r : ARes} (e : opBox h nx t a = some r) (ra : VR ρ a c) : ∃ mk o, Form (fun h nx => opBox h nx t a) mk o ∧ Makes P ρ w mk o (Instr.box t c) := by
  unfold opBox at e
  simp only [Option.map_eq_some_iff] at e
  obtain ⟨cs, hc, _⟩ := e
  refine ⟨fun n => .ptr n 0, .cells cs t, fun h nx => by simp [opBox, hc, newCells], ?_⟩
  refine makes_row (cs := c.cells.toList) (ra.cells hc) (cv := fun b => .pointer (some ⟨b, 0, none⟩)) (w' := w.alloc (.cells c.cells t)) ?_ rfl rfl rfl rfl (fun σ n b hn => .ptr 0 hn)
  simp [Instr.box, newVar, newRow, newObj, Sem.run]
theorem make_map (t : TypeId) : Makes P ρ w (fun n => .map n) (.map [] 0) (Instr.makeMap t none) := by
  refine ⟨.map (some w.heap.size), .map #[] 0, 0, w.alloc (.map #[] 0), ?_, rfl, rfl, rfl, rfl, fun n hn => ⟨.map (Ren.put_same _ _ _), .map _ .nil⟩⟩
  simp [Instr.makeMap, newObj, Sem.run]
theorem elem_get (K : TabOk P T) {t : TypeId} {e : Nat} {te : TI} (h : elemOf T t = some (e, te)) : P.underlying t = some (.slice e) ∧ T.ty e = some te := by
  unfold elemOf at h
  split at h
  case h_2 => cases h
  rename_i ti ht
  obtain ⟨i, z, d, hi, hs, hby, hz, hzf, hz0, hu, hk, ha, hfk⟩ := K.get ht
  split at h
  · rename_i el hd
    rw [hd] at hk; cases kind_slice hk
    simp only [Option.map_eq_some_iff, Prod.mk.injEq] at h
    obtain ⟨te', h1, h2, h3⟩ := h
    subst h2; subst h3
    exact ⟨hu, h1⟩
  · cases h
theorem make_buildSlice (K : TabOk P T) {t : TypeId} {len : Nat} {ps : List (Nat × AV)} {qs : Array (Nat × Value)} {r : ARes} (e : opBuildSlice T h nx t len ps = some r) (rp : LR (PR ρ) ps qs.toList) :
    ∃ mk o, Form (fun h nx => opBuildSlice T h nx t len ps) mk o ∧ Makes P ρ w mk o (Instr.buildSlice t len qs) := by
  unfold opBuildSlice at e
  split at e
  case h_2 => cases e
  rename_i el te hel
  obtain ⟨hu, hte⟩ := elem_get K hel
  obtain ⟨ie, ze, de, hie, hse, hbe, hze, hzfe, hz0e, hue, _⟩ := K.get hte
  have hzs := K.zsize hte hie hze
  split at e
  · rename_i hle
    have hle' := hle
    rw [ble_iff] at hle'
    simp only [Option.map_eq_some_iff] at e
    obtain ⟨out, hf, _⟩ := e
    have hf' := hf
    rw [hz0e] at hf
    have hp : ∀ j q, placeA te.size j = some q → (fun i => some (i * ie.size, ie.size)) j = some q := by
      intro j q hq
      simp only [placeA] at hq
      simp only [hse, hq]
    obtain ⟨ds', h1, h2⟩ := fill_rel hp rp hf ((zeroOf_rel (ρ := ρ) ze).rep len)
    refine ⟨fun n => .slc n 0 len len, .cells out el, fun h nx => by simp only [opBuildSlice, hel, hle, hf', Option.map_some, newCells], ?_⟩
    refine makes_row (cs := ds') h2 (cv := fun b => .slice (some ⟨b, 0, none⟩) len len) (w' := w.alloc (.cells ds'.toArray el)) ?_ rfl rfl rfl rfl (fun σ n b hn => .slc 0 len len hn)
    have hnot : ¬ len * ie.size > 2 ^ 24 := by rw [hse]; show ¬ len * te.size > 16777216; have : Nat.mul len te.size = len * te.size := rfl; omega
    have hcells : ((Array.range (len * ie.size)).map fun i => ze.cells[i % ze.cells.size]!) = (List.replicate len ze.cells.toList).flatten.toArray := by
      have := range_mod' ze.cells.toList len
      rw [show ze.cells.toList.length = ie.size by rw [← hzs]; simp] at this
      simpa using this
    simp only [Instr.buildSlice, Sem.run_bind, run_und w hu, Result.andThen_ok, run_size w hie, if_neg hnot, Sem.run_pure]
    by_cases h0 : len * ie.size = 0
    · have hc0 : ((Array.range (len * ie.size)).map fun i => (#[] : Array Value)[i % (#[] : Array Value).size]!) = (List.replicate len ze.cells.toList).flatten.toArray := by
        rw [← hcells, h0]; simp
      rw [if_pos h0]
      simp only [Sem.run_bind, Sem.run_pure, Result.andThen_ok]
      rw [hc0, h1]
      simp [newRow, newObj, Sem.run]
    · rw [if_neg h0]
      simp only [Sem.run_bind, run_zero w hie hze, Sem.run_pure, Result.andThen_ok]
      rw [hcells, h1]
      simp [newRow, newObj, Sem.run]
  · cases e
theorem roomy_get {te : TI} {n : Nat} (h : roomy te n = true) : te.size ≠ 0 ∧ n ≤ 1073741824 ∧ n * te.bytes ≤ 68719476736 ∧ te.bytes ≤ 68719476736 := by
  unfold roomy at h
  simp only [Bool.and_eq_true, ble_iff, Bool.not_eq_true'] at h
  refine ⟨?_, h.1.1.2, h.1.2, h.2⟩
  intro h0
  have := h.1.1.1
  rw [h0] at this
  simp [isZ] at this
theorem beq1_eq {a b : AV} (h : beq1 a b = true) : a = b := by
  unfold beq1 at h
  split at h
  · split at h <;> first | cases h | (rw [eqB_iff] at h; simp at h; rw [h])
  · split at h <;> first | cases h | (simp only [Bool.and_eq_true, sameK_iff, eqI_iff, decide_eq_true_eq] at h; rw [h.1, h.2])
  · split at h <;> first | cases h | (rw [eqL_iff] at h; rw [h])
  · split at h <;> first | (cases h; done) | rfl
  · split at h <;> first | (cases h; done) | rfl
  · split at h <;> first | (cases h; done) | rfl
  · split at h <;> first | (cases h; done) | rfl
  · split at h <;> first | (cases h; done) | rfl
  · split at h <;> first | cases h | (simp only [Bool.and_eq_true, beq_iff] at h; rw [Nm.beq_eq h.1, h.2])
  · split at h <;> first | cases h | (simp only [Bool.and_eq_true, beq_iff] at h; rw [Nm.beq_eq h.1.1.1, h.1.1.2, h.1.2, h.2])
  · split at h <;> first | cases h | (simp only [Bool.and_eq_true, beq_iff] at h; rw [Nm.beq_eq h.1.1.1, h.1.1.2, h.1.2, h.2])
  · split at h <;> first | cases h | (rw [Nm.beq_eq h])
  · split at h <;> first | cases h | (rw [Nm.beq_eq h])
  · split at h
    · split at h <;> first | cases h | (rw [beq_iff] at h; rw [h])
    · cases h
  · cases h
theorem allSame_eq {z : AV} : ∀ {l : List AV}, allSame z l = true → l = List.replicate l.length z
  | [], _ => rfl
  | x :: l, h => by
    unfold allSame at h
    split at h
    · rename_i hb
      rw [List.length_cons, List.replicate_succ, ← allSame_eq h, ← beq1_eq hb]
    · cases h
theorem uni_eq {zero : List AV} {p : AV × Nat} (h : uni zero = some p) (c : Nat) : replicateL zero c = List.replicate (p.2 * c) p.1 := by
  unfold uni at h
  split at h
  · cases h
  rename_i z l
  split at h
  · rename_i hs
    cases h
    have hz : z :: l = List.replicate (l.length + 1) z := by rw [List.replicate_succ, ← allSame_eq hs]
    rw [lenL_eq, hz]
    show _ = List.replicate ((l.length + 1) * c) z
    induction c with
    | zero => rfl
    | succ c ih => rw [replicateL_succ, ih, Nat.mul_succ, Nat.add_comm ((l.length + 1) * c), List.replicate_append_replicate]
  · cases h
theorem blockOf_rel {ρ : Ren} {zero : List AV} {c : Nat} {e : TypeId} {o : Option Obj} {k : Nat} (r : OR ρ (.cells (replicateL zero c) e) o k) : OR ρ (blockOf zero c e) o k := by
  unfold blockOf
  split
  · rename_i p hp
    split
    · refine .segs ?_
      have hm : Nat.mul p.2 c = p.2 * c := rfl
      have : segL [.rep (Nat.mul p.2 c) p.1] = replicateL zero c := by rw [uni_eq hp, hm]; simp [segL, Sg.cells]
      rw [this]; exact r
    · exact r
  · exact r
theorem makes_block {ρ : Ren} {mk : Nm → AV} {zero : List AV} {c : Nat} {e : TypeId} {s : Sem Value} (m : Makes P ρ w mk (.cells (replicateL zero c) e) s) : Makes P ρ w mk (blockOf zero c e) s := by
  obtain ⟨cv, o, k, w', h1, h2, h3, h4, h5, h6⟩ := m
  exact ⟨cv, o, k, w', h1, h2, h3, h4, h5, fun n hn => ⟨(h6 n hn).1, blockOf_rel (h6 n hn).2⟩⟩
theorem make_makeSlice (K : TabOk P T) {t : TypeId} {l c : Nat} {r : ARes} (e : opMakeSlice T h nx t l c = some r) (kl kc : IntKind) :
    ∃ mk o, Form (fun h nx => opMakeSlice T h nx t l c) mk o ∧ Makes P ρ w mk o (Instr.makeSlice t (.int kl (l : Int)) (.int kc (c : Int))) := by
  unfold opMakeSlice at e
  split at e
  case h_2 => cases e
  rename_i el te hel
  obtain ⟨hu, hte⟩ := elem_get K hel
  obtain ⟨ie, ze, de, hie, hse, hbe, hze, hzfe, hz0e, hue, _⟩ := K.get hte
  have hzs := K.zsize hte hie hze
  split at e
  case h_2 => cases e
  rename_i hc
  have hc' := hc
  rw [Bool.and_eq_true, ble_iff] at hc'
  obtain ⟨hlc, hr⟩ := hc'
  obtain ⟨hs0, hn, hb, hb1⟩ := roomy_get hr
  refine ⟨fun n => .slc n 0 l c, blockOf te.zero c el, fun h nx => by simp only [opMakeSlice, hel, hc], ?_⟩
  refine makes_block ?_
  have hcells : ((Array.range (c * ie.size)).map fun i => ze.cells[i % ze.cells.size]!) = (List.replicate c ze.cells.toList).flatten.toArray := by
    have := range_mod' ze.cells.toList c
    rw [show ze.cells.toList.length = ie.size by rw [← hzs]; simp] at this
    simpa using this
  refine makes_row (cs := (List.replicate c ze.cells.toList).flatten) (by rw [hz0e]; exact (zeroOf_rel (ρ := ρ) ze).rep c) (cv := fun b => .slice (some ⟨b, 0, none⟩) l c)
    (w' := w.alloc (.cells (List.replicate c ze.cells.toList).flatten.toArray el)) ?_ rfl rfl rfl rfl (fun σ n b hn => .slc 0 l c hn)
  have wc : IntKind.i64.wrap (c : Int) = c := topOf_wrap .i64 c (by simp [topOf]; omega)
  have wl : IntKind.i64.wrap (l : Int) = l := topOf_wrap .i64 l (by simp [topOf]; omega)
  have hbig : ¬ ((ie.bytes : Int) * (c : Int) > 2 ^ 48) := by
    rw [hbe]
    have : ((te.bytes : Int) * (c : Int)) = ((c * te.bytes : Nat) : Int) := by rw [Nat.mul_comm]; simp
    rw [this]
    have : (2 : Int) ^ 48 = 281474976710656 := by decide
    rw [this]; omega
  have htl : (decide ((c : Int) < 0) || decide ((ie.bytes : Int) * (c : Int) > 2 ^ 48)) = false := by
    simp only [Bool.or_eq_false_iff, decide_eq_false_iff_not]
    exact ⟨by omega, hbig⟩
  simp only [Instr.makeSlice, Sem.run_bind, run_und w hu, Result.andThen_ok, asInt, asIntOf, Sem.run_pure, run_info w hie, wc, wl, htl]
  rw [if_neg (by simp; omega)]
  have hroom : ¬ ((c : Int).toNat * ie.bytes > roomBytes) := by
    rw [hbe]
    have : roomBytes = 140737488355328 := by decide
    rw [this]
    simp; omega
  simp only [Sem.run_pure, Result.andThen_ok, askRoom, if_neg hroom, Sem.run_bind, run_size w hie]
  simp only [Int.toNat_natCast]
  by_cases h0 : c * ie.size = 0
  · have hc0 : ((Array.range (c * ie.size)).map fun i => (#[] : Array Value)[i % (#[] : Array Value).size]!) = (List.replicate c ze.cells.toList).flatten.toArray := by
      rw [← hcells, h0]; simp
    rw [if_pos h0]
    simp only [Sem.run_bind, Sem.run_pure, Result.andThen_ok]
    rw [hc0]
    simp [newRow, newObj, Sem.run]
  · rw [if_neg h0]
    simp only [Sem.run_bind, run_zero w hie hze, Sem.run_pure, Result.andThen_ok]
    rw [hcells]
    simp [newRow, newObj, Sem.run]

/-! ### conversions -/
theorem isByte_get (K : TabOk P T) {t : TypeId} (h : isByte T t = true) : P.underlying t = some (.int .u8) := by
  unfold isByte at h
  split at h
  · rename_i ti ht
    obtain ⟨i, z, d, hi, hs, hby, hz, hzf, hz0, hu, hk, ha, hfk⟩ := K.get ht
    split at h
    · rename_i hd
      rw [hd] at hk; cases kind_int hk
      exact hu
    · cases h
  · cases h
theorem bytes_cells (s : ByteArray) : VsR ρ ((s.data.toList.map UInt8.toNat).map fun b => AV.int .u8 (Int.ofNat b)) (s.data.map (fun b => Value.int .u8 b.toNat)).toList := by
  rw [Array.toList_map, List.map_map]
  induction s.data.toList with
  | nil => exact .nil
  | cons b l ih => exact .cons (.int _ _) ih
theorem make_bytes (w : World) {src dst el : TypeId} (s : ByteArray) (hs : P.underlying src = some .string) (hd : P.underlying dst = some (.slice el)) (he : P.underlying el = some (.int .u8)) :
    Makes P ρ w (fun n => .slu n 0 s.size 1) (.cells ((s.data.toList.map UInt8.toNat).map fun b => AV.int .u8 (Int.ofNat b)) el) (convert src dst (.string s)) := by
  have hrun := run_bytes_of_string w src dst el s hs hd he
  have hge := grownCap_ge w s.size 0 el
  have hsz : (bytesRow s (grownCap w s.size 0 el)).size = grownCap w s.size 0 el := by
    simp only [bytesRow, Array.size_append, Array.size_map, Array.size_replicate]
    have : s.data.size = s.size := rfl
    omega
  refine ⟨_, _, grownCap w s.size 0 el, _, hrun, rfl, rfl, rfl, rfl, fun n hn => ⟨?_, ?_⟩⟩
  · exact .slu 0 s.size 1 _ (Ren.put_same _ _ _) hge (by omega)
  · rw [hsz]
    have := OR.cells (ρ := ρ.put n (w.heap.size, grownCap w s.size 0 el)) (vs := (s.data.toList.map UInt8.toNat).map fun b => AV.int .u8 (Int.ofNat b)) (t := el) (cs := bytesRow s (grownCap w s.size 0 el))
      (fr := (grownCap w s.size 0 el, grownCap w s.size 0 el + 1)) (ds := (s.data.map (fun b => Value.int .u8 b.toNat)).toList) (rest := (Array.replicate (grownCap w s.size 0 el - s.size) (Value.int .u8 0)).toList)
      (by simp [bytesRow]) (bytes_cells s) (.inr (by rw [hsz]; exact Nat.le_refl _))
    rw [hsz] at this
    exact this
end
end Go.AM

namespace Go.AM

/-- a block is written anew -/
def putO (w : World) (g : Nat) (o : Obj) : World := ⟨w.heap.setIfInBounds g o, w.tape, w.drawn, w.os, w.output⟩
theorem putO_same {w : World} {g : Nat} (h : g < w.heap.size) (o : Obj) : (putO w g o).heap[g]? = some o := by
  simp [putO, Array.getElem?_setIfInBounds, h]
theorem putO_other {w : World} {g k : Nat} (o : Obj) (h : k ≠ g) : (putO w g o).heap[k]? = w.heap[k]? := by
  simp [putO, Array.getElem?_setIfInBounds, Ne.symm h]
theorem putO_size (w : World) (g : Nat) (o : Obj) : (putO w g o).heap.size = w.heap.size := by simp [putO]
theorem putO_twice (w : World) (g : Nat) (o p : Obj) : putO (putO w g o) g p = putO w g p := by simp [putO]
theorem setCell_put {w : World} {g : Nat} {cs : Array Value} {t : TypeId} {fr : Nat × Nat} (h : w.heap[g]? = some (.cells cs t fr)) (k : Nat) (v : Value) :
    w.setCell ⟨g, k, none⟩ v = putO w g (.cells (cs.setIfInBounds k v) t fr) := by
  unfold World.setCell putO
  congr 1
  apply Array.ext_getElem?
  intro i
  rw [Array.getElem?_modify, Array.getElem?_setIfInBounds]
  by_cases hi : g = i
  · subst hi
    obtain ⟨hlt, hge⟩ := Array.getElem?_eq_some_iff.1 h
    simp [hlt, hge]
  · simp [hi]
theorem putO_self {w : World} {g : Nat} {o : Obj} (h : w.heap[g]? = some o) : putO w g o = w := by
  unfold putO
  have : w.heap.setIfInBounds g o = w.heap := by
    apply Array.ext_getElem?
    intro i
    rw [Array.getElem?_setIfInBounds]
    split
    · rename_i he; subst he; rw [h]; simp; exact (Array.getElem?_eq_some_iff.1 h).1
    · rfl
  rw [this]
section
variable {P : Program} {T : Tab} {B : Nat} {ρ : Ren} {h : Heap} {nx : Nm} {w : World}

theorem run_stores (g : Nat) (t : TypeId) (fr : Nat × Nat) (o : Nat) : ∀ (vs : List Value) (i : Nat) (cur : List Value) (w : World), w.heap[g]? = some (.cells cur.toArray t fr) → Free cur.length fr → o + i + vs.length ≤ cur.length →
    (∀ v ∈ vs, v.oneCell' = true) →
    (Go.storeCells ⟨g, o, none⟩ vs i).run P w = .ok () (putO w g (.cells (cur.take (o + i) ++ vs ++ cur.drop (o + i + vs.length)).toArray t fr))
  | [], i, cur, w, hg, hf, hle, h1 => by
    simp only [Go.storeCells, Sem.run_pure, List.length_nil, Nat.add_zero, List.append_nil, List.take_append_drop]
    rw [putO_self hg]
  | v :: vs, i, cur, w, hg, hf, hle, h1 => by
    simp only [List.length_cons] at hle
    have hlt : o + i < cur.length := by omega
    have hc : w.cell? ⟨g, o + i, none⟩ = some cur[o + i] := by rw [cell_of hg]; simp [hlt]
    have hfz : w.frozen? ⟨g, o + i, none⟩ = false := by
      simp only [World.frozen?, hg]
      exact hf.at hlt
    have hrest := run_stores g t fr o vs (i + 1) (cur.set (o + i) v) (putO w g (.cells (cur.toArray.setIfInBounds (o + i) v) t fr))
      (by rw [putO_same (Array.getElem?_eq_some_iff.1 hg).1]; simp) (by simpa using hf) (by simp; omega) (fun u hu => h1 u (by simp [hu]))
    simp only [Go.storeCells, Sem.run_bind, add_eq, run_store P w _ v _ (h1 v (by simp)), hc, hfz, Bool.false_eq_true, if_false, Result.andThen_ok]
    rw [setCell_put hg, hrest, putO_twice]
    congr 4
    apply List.ext_getElem?
    intro j
    simp only [List.append_assoc, List.getElem?_append, List.length_take, List.length_set, List.getElem?_take, List.getElem?_set, List.getElem?_drop, List.length_cons]
    by_cases h1' : j < o + i
    · simp [show j < min (o + (i + 1)) cur.length by omega, show j < min (o + i) cur.length by omega, show j < o + (i + 1) by omega, h1', show ¬ o + i = j by omega]
    · by_cases h2 : j = o + i
      · subst h2
        simp [show o + i < min (o + (i + 1)) cur.length by omega, show ¬ o + i < min (o + i) cur.length by omega, show min (o + i) cur.length = o + i by omega, hlt, show o + i < o + (i + 1) by omega]
      · have e1 : min (o + (i + 1)) cur.length = o + (i + 1) := by omega
        have e2 : min (o + i) cur.length = o + i := by omega
        simp only [e1, e2, show ¬ j < o + (i + 1) by omega, h1', if_false]
        rw [show j - (o + i) = (j - (o + (i + 1))) + 1 by omega]
        simp only [List.getElem?_cons_succ, Nat.add_lt_add_iff_right]
        by_cases h3 : j - (o + (i + 1)) < vs.length
        · simp [h3]
        · simp only [h3, if_false]
          rw [if_neg (by omega)]
          congr 1
          omega
theorem ok1s_cells : ∀ {xs : List AV} {ys : List Value}, ok1s xs = true → VsR ρ xs ys → ∀ v ∈ ys, v.oneCell' = true
  | [], ys, e, r => by cases r; simp
  | x :: xs, ys, e, r => by
    have e' : (match ok1 x with | true => ok1s xs | false => false) = true := e
    split at e'
    · rename_i hx
      cases r with
      | cons r1 r2 =>
        intro v hv
        rcases List.mem_cons.1 hv with rfl | hv
        · exact ok1_cell r1 hx
        · exact ok1s_cells e' r2 v hv
    · cases e'
theorem stores_rel (H : HR B ρ h nx w) {n : Nm} {b c off : Nat} {xs : List AV} {ys : List Value} {h' : Heap} (e : storeCells h n off xs = some h') (hn : ρ n = some (b, c)) (r : VsR ρ xs ys) :
    ∃ w', (Go.storeCells ⟨b, off, none⟩ ys).run P w = .ok () w' ∧ HR B ρ h' nx w' ∧ Turn B w w' := by
  have hrow : ∃ o vs t o', h.get n = some o ∧ rowOf o = some (vs, t) ∧ ok1s xs = true ∧ h' = h.set (some o') n ∧
      (∀ {σ : Ren} {ob : Option Obj} {k : Nat} {us : List AV}, over vs off xs = some us → OR σ (.cells us t) ob k → OR σ o' ob k) ∧ ∃ us, over vs off xs = some us := by
    unfold storeCells at e
    split at e
    · rename_i vs t hg
      split at e
      case h_2 => cases e
      rename_i hok
      simp only [Option.map_eq_some_iff] at e
      obtain ⟨vs', ho, rfl⟩ := e
      exact ⟨_, _, _, _, hg, rfl, hok, rfl, fun hu r => by rw [ho] at hu; cases hu; exact r, _, ho⟩
    · rename_i g t hg
      split at e
      case h_2 => cases e
      rename_i hok
      simp only [Option.map_eq_some_iff] at e
      obtain ⟨g', ho, rfl⟩ := e
      have ho := segOver_spec ho
      exact ⟨_, _, _, _, hg, rfl, hok, rfl, fun hu r => by rw [ho] at hu; cases hu; exact .segs r, _, ho⟩
    · cases e
  obtain ⟨ao, vs, t, ao', hg, hro, hok, rfl, hor, vs', ho⟩ := hrow
  have ho' := ho
  obtain ⟨hle, rfl⟩ := over_some ho
  obtain ⟨cs, fr, ds, rest, hb, rfl, he, hr, hf⟩ := H.row hg hro hn
  have hcs : cs = (ds ++ rest).toArray := by apply Array.toList_inj.1; rw [he]
  have hdl := hr.length
  have hxl := r.length
  subst hcs
  have hrun := run_stores (P := P) b t fr off ys 0 (ds ++ rest) w hb (by simpa using hf) (by simp; omega) (ok1s_cells hok r)
  have hlow := H.low _ _ _ hn
  have hlist : (ds ++ rest).take (off + 0) ++ ys ++ (ds ++ rest).drop (off + 0 + ys.length) = (ds.take off ++ ys ++ ds.drop (off + ys.length)) ++ rest := by
    rw [Nat.add_zero, List.take_append_of_le_length (by omega), List.drop_append_of_le_length (by omega)]
    simp
  refine ⟨_, hrun, H.upd hg hn (putO_size _ _ _) (fun k hk => putO_other _ hk) ?_, Turn.upd hlow.1 (putO_size _ _ _) (fun k hk => putO_other _ hk) rfl rfl rfl⟩
  rw [putO_same hlow.2, hlist]
  have hsz : (((ds.take off ++ ys ++ ds.drop (off + ys.length)) ++ rest).toArray).size = ((ds ++ rest).toArray).size := by
    simp only [List.size_toArray, List.length_append, List.length_take, List.length_drop]; omega
  have := OR.cells (ρ := ρ) (vs := vs.take off ++ xs ++ vs.drop (off + xs.length)) (t := t) (cs := ((ds.take off ++ ys ++ ds.drop (off + ys.length)) ++ rest).toArray) (fr := fr)
    (ds := ds.take off ++ ys ++ ds.drop (off + ys.length)) (rest := rest) (by simp) (by rw [hxl]; exact ((hr.take off).append r).append (hr.drop _)) (by rw [hsz]; exact hf)
  rw [hsz] at this
  exact hor ho' this

theorem sem_store (K : TabOk P T) (H : HR B ρ h nx w) {t : TypeId} {a x v : AV} {c d : Value} {h' : Heap} {nx' : Nm} (e : opStore T h nx t a x = some (.val v h' nx')) (ra : VR ρ a c) (rx : VR ρ x d) :
    v = undef ∧ nx' = nx ∧ ∃ w', (Instr.storeAt t c d).run P w = .ok () w' ∧ HR B ρ h' nx w' ∧ Turn B w w' := by
  unfold opStore at e
  split at e
  case h_2 => cases e
  rename_i ti ht
  obtain ⟨i, z, dd, hi, hs, hby, hz, hzf, hz0, hu, hk, ha, hfk⟩ := K.get ht
  split at e
  case h_2 => cases e
  rename_i n off
  split at e
  case h_2 => cases e
  rename_i cs hcs
  split at e
  case h_2 => cases e
  rename_i hl
  rw [beq_iff, lenL_eq] at hl
  simp only [Option.map_eq_some_iff] at e
  obtain ⟨h2, hst, hv⟩ := e
  cases hv
  cases ra with
  | ptr _ hn =>
    have rc := rx.cells hcs
    obtain ⟨w', h1, h2, h3⟩ := stores_rel (P := P) H hst hn rc
    refine ⟨rfl, rfl, w', ?_, h2, h3⟩
    have hsz : d.cells.size = i.size := by rw [hs, ← hl, rc.length]; simp
    simp [Instr.storeAt, Instr.sureAddr, storeVar, run_size w hi, hsz, h1]
theorem sem_clear (K : TabOk P T) (H : HR B ρ h nx w) {t : TypeId} {x v : AV} {c : Value} {h' : Heap} {nx' : Nm} (us : Array TypeId) (ty : TypeId) (hus : us[0]? = some t)
    (e : opClear T h nx t x = some (.val v h' nx')) (r : VR ρ x c) :
    v = undef ∧ nx' = nx ∧ ∃ w', (Builtin.clear_ us ty #[c]).run P w = .ok Go.undef w' ∧ HR B ρ h' nx w' ∧ Turn B w w' := by
  unfold opClear at e
  split at e
  case h_2 => cases e
  rename_i el te hel
  obtain ⟨hu, hte⟩ := elem_get K hel
  obtain ⟨ie, ze, de, hie, hse, hbe, hze, hzfe, hz0e, hue, _⟩ := K.get hte
  have hzs := K.zsize hte hie hze
  have hzl : ∀ n : Nat, (Builtin.zeroCells ze.cells n).toList = (List.replicate n ze.cells.toList).flatten := by
    intro n
    have := range_mod' ze.cells.toList n
    simp only [Builtin.zeroCells]
    rw [show ze.cells.toList.length = ze.cells.size by simp] at this
    simp only [Array.toArray_toList] at this
    rw [this]
  have hzr := zeroOf_rel (ρ := ρ) ze
  have main : ∀ (b : Nm) (bb cc off n cap : Nat), ρ b = some (bb, cc) → (storeCells h b off (replicateL te.zero n)).map (fun h' => ARes.val undef h' nx) = some (.val v h' nx') →
      v = undef ∧ nx' = nx ∧ ∃ w', (Builtin.clear_ us ty #[.slice (some ⟨bb, off, none⟩) n cap]).run P w = .ok Go.undef w' ∧ HR B ρ h' nx w' ∧ Turn B w w' := by
    intro b bb cc off n cap hn e
    simp only [Option.map_eq_some_iff] at e
    obtain ⟨h2, hst, hv⟩ := e
    cases hv
    rw [hz0e] at hst
    obtain ⟨w', h1, h2', h3⟩ := stores_rel (P := P) H hst hn (hzr.rep n)
    refine ⟨rfl, rfl, ?_⟩
    cases n with
    | zero =>
      simp only [List.replicate_zero, List.flatten_nil, Go.storeCells, Sem.run_pure] at h1
      cases h1
      exact ⟨w, by simp [Builtin.clear_, hus, run_und w hu, Go.undef], h2', h3⟩
    | succ n =>
      refine ⟨w', ?_, h2', h3⟩
      simp [Builtin.clear_, hus, run_und w hu, Go.undef, run_zero w hie hze, hzl, h1]
  split at e
  · cases e; cases r
    exact ⟨rfl, rfl, w, by simp [Builtin.clear_, hus, run_und w hu, Go.undef], H, .refl _ _⟩
  · cases r with
    | slc _ _ _ hn => exact main _ _ _ _ _ _ hn e
  · cases r with
    | slu _ _ _ _ hn _ _ => exact main _ _ _ _ _ _ hn e
  · cases e
end
end Go.AM

namespace Go.AM
section
variable {P : Program} {T : Tab} {B : Nat} {ρ : Ren} {h : Heap} {nx : Nm} {w : World}

theorem run_setObj {b : Nat} {o : Obj} (o' : Obj) (hb : w.heap[b]? = some o) (hc : ∀ c t f, o ≠ .cells c t f) : (setObj b o').run P w = .ok () (putO w b o') := by
  unfold setObj
  simp only [Sem.run, hb]
  rfl
theorem keyStays (x : Value) (w : World) : ∃ w', (Instr.keyThatStays x x).run P w = .ok x w' ∧ Alike w w' := by
  unfold Instr.keyThatStays
  by_cases hs : Instr.sameBits 10000 x x = true
  · exact ⟨w, by simp [hs], .refl w⟩
  · refine ⟨w.drew, ?_, .drew w⟩
    have hs' : Instr.sameBits 10000 x x = false := by simpa using hs
    simp [hs', choose, Sem.run, Question.forced]
theorem eqCell_same {k : CK} {a b : AV} (e : eqCell k a b = some true) {x y : Value} (ra : VR ρ a x) (rb : VR ρ b y) : x = y := by
  cases k <;> simp only [eqCell] at e
  · split at e
    · split at e
      · cases ra; cases rb
        simp only [Option.some.injEq, eqB_iff, beq_iff_eq] at e
        rw [e]
      · cases e
    · cases e
  · split at e
    · split at e
      · split at e
        · rename_i hk
          rw [sameK_iff] at hk
          cases ra; cases rb
          simp only [Option.some.injEq, eqI_iff, decide_eq_true_eq] at e
          rw [e, hk]
        · cases e
      · cases e
    · cases e
  · split at e
    · split at e
      · cases ra; cases rb
        rename_i s1 s2
        rw [strEq_eq] at e
        simp only [Option.some.injEq, beq_iff_eq, ByteArray.toList_eq] at e
        have : s1 = s2 := by
          cases s1; cases s2
          simp only at e
          rw [Array.toList_inj.1 e]
        rw [this]
      · cases e
    · cases e
theorem eqCells_same : ∀ {ks : List CK} {as bs : List AV} {xs ys : List Value}, eqCells ks as bs = some true → VsR ρ as xs → VsR ρ bs ys → xs = ys
  | [], as, bs, xs, ys, e, ra, rb => by
    rw [eqCells_nil] at e
    split at e
    · split at e
      · cases ra; cases rb; rfl
      · cases e
    · cases e
  | k :: ks, as, bs, xs, ys, e, ra, rb => by
    rw [eqCells_cons] at e
    split at e
    · cases e
    · split at e
      · cases e
      · split at e
        · rename_i t ht
          split at e
          · cases ra with
            | cons r1 r2 => cases rb with
              | cons s1 s2 => rw [eqCell_same ht r1 s1, eqCells_same e r2 s2]
          · cases e
        · cases e
theorem keyEq_same {K : KT} {a b : AV} (e : keyEq K a b = some true) {x y : Value} (ra : VR ρ a x) (rb : VR ρ b y) : x = y := by
  unfold keyEq at e
  simp only [Option.bind_eq_some_iff] at e
  obtain ⟨cs, h1, ds, h2, h3⟩ := e
  obtain ⟨xs, r1, v1⟩ := keyCells_rel h1 ra
  obtain ⟨ys, r2, v2⟩ := keyCells_rel h2 rb
  have := eqCells_same h3 r1 r2
  subst this
  unfold valOf at v1 v2
  cases hK : K.agg
  · rw [hK] at v1 v2; simp at v1 v2; rw [v1] at v2; simpa using v2
  · rw [hK] at v1 v2; simp at v1 v2; rw [v1, v2]
theorem findE_same {K : KT} {k : AV} : ∀ {es : List (AV × AV × Nat)} {i j : Nat} {e : AV × AV × Nat}, findE K k es i = some (some (j, e)) → keyEq K k e.1 = some true ∧ i ≤ j ∧ es[j - i]? = some e
  | [], i, j, e, hf => by rw [findE_nil] at hf; cases hf
  | e0 :: es, i, j, e, hf => by
    rw [findE_cons] at hf
    split at hf
    · rename_i t ht
      split at hf
      · cases hf; exact ⟨ht, Nat.le_refl _, by simp⟩
      · obtain ⟨h1, h2, h3⟩ := findE_same hf
        have : Nat.succ i = i + 1 := rfl
        refine ⟨h1, by omega, ?_⟩
        rw [show j - i = (j - (i + 1)) + 1 by omega]
        simpa using h3
    · cases hf
theorem modify_set {α : Type} (l : List α) (i : Nat) (f : α → α) {x : α} (h : l[i]? = some x) : l.modify i f = l.set i (f x) := by
  apply List.ext_getElem?
  intro j
  rw [List.getElem?_modify, List.getElem?_set]
  by_cases hj : i = j
  · subst hj
    obtain ⟨hlt, hx⟩ := List.getElem?_eq_some_iff.1 h
    simp [hlt, hx]
  · simp [hj]
theorem amodify_set (l : List MapEntry) (i : Nat) (f : MapEntry → MapEntry) {x : MapEntry} (h : l[i]? = some x) : l.toArray.modify i f = (l.set i (f x)).toArray := by
  apply Array.toList_inj.1
  rw [Array.toList_modify]
  simpa using modify_set l i f h

theorem map_upd (H : HR B ρ h nx w) {n : Nm} {a : AO} {b c : Nat} (hg : h.get n = some a) (hn : ρ n = some (b, c)) {es : List (AV × AV × Nat)} {fs : List MapEntry} (clock : Nat) (r : LR (ER ρ) es fs) :
    HR B ρ (h.set (some (.map es clock)) n) nx (putO w b (.map fs.toArray clock)) ∧ Turn B w (putO w b (.map fs.toArray clock)) := by
  have hlow := H.low _ _ _ hn
  exact ⟨H.upd hg hn (putO_size _ _ _) (fun k hk => putO_other _ hk) (by rw [putO_same hlow.2]; exact .map _ r), Turn.upd hlow.1 (putO_size _ _ _) (fun k hk => putO_other _ hk) rfl rfl rfl⟩
/-- what becomes of s, where no new name is given -/
def Turns (P : Program) (B : Nat) (ρ : Ren) (h' : Heap) (nx : Nm) (w : World) (v : AV) (s : Sem Value) : Prop := ∃ c w', s.run P w = .ok c w' ∧ VR ρ v c ∧ HR B ρ h' nx w' ∧ Turn B w w'
def TurnsU (P : Program) (B : Nat) (ρ : Ren) (h' : Heap) (nx : Nm) (w : World) (s : Sem Unit) : Prop := ∃ w', s.run P w = .ok () w' ∧ HR B ρ h' nx w' ∧ Turn B w w'
theorem HR.alike {w' : World} (H : HR B ρ h nx w) (a : Alike w w') : HR B ρ h nx w' := H.of_heap a.heap

theorem sem_mapPut (K : TabOk P T) (H : HR B ρ h nx w) {t : TypeId} {m k x v : AV} {c d q : Value} {h' : Heap} {nx' : Nm} (e : opMapPut T h nx t m k x = some (.val v h' nx')) (rm : VR ρ m c) (rk : VR ρ k d) (rx : VR ρ x q) :
    v = undef ∧ nx' = nx ∧ TurnsU P B ρ h' nx w (Instr.mapUpdate t c d q) := by
  unfold opMapPut at e
  split at e
  case h_2 => cases e
  rename_i n
  split at e
  case h_2 => cases e
  rename_i KK hKK
  unfold keyed at hKK
  split at hKK
  case h_2 => cases hKK
  rename_i ti ht
  obtain ⟨i, z, dt, hi, hs, hby, hz, hzf, hz0, hu, hk, ha, hfk⟩ := K.get ht
  split at hKK
  case h_2 => cases hKK
  rename_i kt el hd
  rw [hd] at hk; cases kind_map hk
  obtain ⟨dk, o⟩ := keyOf_ok K hKK
  unfold mapPut at e
  split at e
  case h_2 => cases e
  rename_i es clock hg
  cases rm with
  | map hn =>
    rename_i b cc
    obtain ⟨fs, hb, R⟩ := H.map hg hn
    split at e
    · rename_i j e0 hseek
      cases e
      obtain ⟨h1, r, h2, h3⟩ := seek_rel (w := w) o rk R hseek
      obtain ⟨f, _, hf, hr, rfl⟩ := h3
      simp only [Nat.sub_zero] at hf
      have hse : findE KK k es 0 = some (some (j, e0)) := by
        unfold seek at hseek
        split at hseek
        · exact hseek
        · cases hseek
      have hkk := keyEq_same (findE_same hse).1 rk hr.1
      subst hkk
      obtain ⟨w1, hw1, hal⟩ := keyStays (P := P) f.key w
      have hb1 : w1.heap[b]? = some (.map fs.toArray clock) := by rw [hal.heap]; exact hb
      have R' : LR (ER ρ) (es.set j (k, x, e0.2.2)) (fs.set j { f with key := f.key, val := q }) := R.set (a := (k, x, e0.2.2)) (b := { f with key := f.key, val := q }) ⟨rk, rx, hr.2.2⟩ j
      obtain ⟨H2, T2⟩ := map_upd (H.alike hal) hg hn clock R'
      refine ⟨rfl, rfl, _, ?_, by rw [setN_eq]; exact H2, (hal.turn B).trans T2⟩
      simp only [Instr.mapUpdate, Sem.run_bind, run_und w hu, Result.andThen_ok, run_getObj hb (by simp), h1, h2, List.getElem?_toArray, hf, Option.map_some, Option.getD_some, hw1]
      rw [amodify_set _ _ _ hf, run_setObj _ hb1 (by simp)]
    · rename_i hseek
      cases e
      obtain ⟨h1, r, h2, h3⟩ := seek_rel (w := w) o rk R hseek
      simp only [FoundR] at h3
      subst h3
      have R' : LR (ER ρ) (es ++ [(k, x, clock)]) (fs ++ [{ key := d, val := q, born := clock }]) := R.append (.cons ⟨rk, rx, rfl⟩ .nil)
      obtain ⟨H2, T2⟩ := map_upd H hg hn (clock + 1) R'
      refine ⟨rfl, rfl, _, ?_, H2, T2⟩
      simp only [Instr.mapUpdate, Sem.run_bind, run_und w hu, Result.andThen_ok, run_getObj hb (by simp), h1, h2]
      rw [run_setObj _ hb (by simp)]
      simp
    · cases e
theorem sem_mapEnt (K : TabOk P T) (H : HR B ρ h nx w) {t : TypeId} {m k v : AV} {c d : Value} {h' : Heap} {nx' : Nm} (e : opMapEntry T h nx t m k = some (.val v h' nx')) (rm : VR ρ m c) (rk : VR ρ k d) :
    nx' = nx ∧ Turns P B ρ h' nx w v (Instr.mapEntry t c d) := by
  unfold opMapEntry at e
  split at e
  case h_2 => cases e
  rename_i ti ht
  obtain ⟨i, z, dt, hi, hs, hby, hz, hzf, hz0, hu, hk, ha, hfk⟩ := K.get ht
  split at e
  case h_2 => cases e
  rename_i kt el hd
  rw [hd] at hk; cases kind_map hk
  split at e
  case h_2 => cases e
  rename_i te hte
  obtain ⟨ie, ze, de, hie, hse, hbe, hze, hzfe, hz0e, hue, _⟩ := K.get hte
  have hzr := zeroA_rel (ρ := ρ) hzfe hz0e
  split at e
  case h_2 => cases e
  rename_i n
  split at e
  case h_2 => cases e
  rename_i KK hKK
  obtain ⟨dk, o⟩ := keyOf_ok K hKK
  unfold mapEnt at e
  split at e
  case h_2 => cases e
  rename_i es clock hg
  cases rm with
  | map hn =>
    rename_i b cc
    obtain ⟨fs, hb, R⟩ := H.map hg hn
    split at e
    · rename_i j e0 hseek
      cases e
      obtain ⟨h1, r, h2, h3⟩ := seek_rel (w := w) o rk R hseek
      obtain ⟨f, _, hf, hr, rfl⟩ := h3
      simp only [Nat.sub_zero] at hf
      have hse : findE KK k es 0 = some (some (j, e0)) := by
        unfold seek at hseek
        split at hseek
        · exact hseek
        · cases hseek
      have hkk := keyEq_same (findE_same hse).1 rk hr.1
      subst hkk
      obtain ⟨w1, hw1, hal⟩ := keyStays (P := P) f.key w
      have hb1 : w1.heap[b]? = some (.map fs.toArray clock) := by rw [hal.heap]; exact hb
      have R' : LR (ER ρ) (es.set j (k, e0.2.1, e0.2.2)) (fs.set j { f with key := f.key }) := R.set (a := (k, e0.2.1, e0.2.2)) (b := { f with key := f.key }) ⟨rk, hr.2.1, hr.2.2⟩ j
      obtain ⟨H2, T2⟩ := map_upd (H.alike hal) hg hn clock R'
      refine ⟨rfl, .tuple #[f.val, Go.goInt f.born], _, ?_, .tup (.cons hr.2.1 (.cons (by rw [hr.2.2]; exact .int _ _) .nil)), by rw [setN_eq]; exact H2, (hal.turn B).trans T2⟩
      simp only [Instr.mapEntry, Sem.run_bind, run_und w hu, Result.andThen_ok, run_getObj hb (by simp), h1, h2, List.getElem?_toArray, hf, Option.map_some, Option.getD_some, hw1]
      rw [amodify_set _ _ _ hf, run_setObj _ hb1 (by simp)]
      simp
    · rename_i hseek
      cases e
      obtain ⟨h1, r, h2, h3⟩ := seek_rel (w := w) o rk R hseek
      simp only [FoundR] at h3
      subst h3
      have R' : LR (ER ρ) (es ++ [(k, zeroA te, clock)]) (fs ++ [{ key := d, val := ze, born := clock }]) := R.append (.cons ⟨rk, hzr, rfl⟩ .nil)
      obtain ⟨H2, T2⟩ := map_upd H hg hn (clock + 1) R'
      refine ⟨rfl, .tuple #[ze, Go.goInt clock], _, ?_, .tup (.cons hzr (.cons (.int _ _) .nil)), H2, T2⟩
      simp only [Instr.mapEntry, Sem.run_bind, run_und w hu, Result.andThen_ok, run_getObj hb (by simp), h1, h2, run_zero w hie hze]
      rw [run_setObj _ hb (by simp)]
      simp
    · cases e
theorem findBorn_some : ∀ {es : List (AV × AV × Nat)} {fs : List MapEntry} {b i j : Nat} {e : AV × AV × Nat}, LR (ER ρ) es fs → findBorn es b i = some (j, e) →
    ∃ f, i ≤ j ∧ fs[j - i]? = some f ∧ es[j - i]? = some e ∧ ER ρ e f ∧ f.born = b ∧ fs.findIdx? (fun e => (e.born : Int) == (b : Int)) = some (j - i) ∧ fs.find? (fun e => e.born == b) = some f
  | [], _, b, i, j, e, r, hf => by simp [findBorn] at hf
  | e0 :: es, fs, b, i, j, e, r, hf => by
    cases r with
    | cons r0 r1 =>
      rename_i f fs
      simp only [findBorn] at hf
      split at hf
      · rename_i hb
        rw [beq_iff] at hb
        simp only [Option.some.injEq, Prod.mk.injEq] at hf
        obtain ⟨rfl, rfl⟩ := hf
        have hfb : f.born = b := by rw [← r0.2.2]; exact hb
        exact ⟨f, Nat.le_refl _, by simp, by simp, r0, hfb, by simp [List.findIdx?_cons, hfb], by simp [hfb]⟩
      · rename_i hb
        have hb' : e0.2.2 ≠ b := Nat.ne_of_beq_eq_false hb
        have hfb : f.born ≠ b := by rw [← r0.2.2]; exact hb'
        obtain ⟨g, h1, h2, h3, h4, h5, h6, h7⟩ := findBorn_some r1 hf
        have hs : Nat.succ i = i + 1 := rfl
        rw [hs] at h1 h2 h3 h6
        have hj : j - i = (j - (i + 1)) + 1 := by omega
        refine ⟨g, by omega, by rw [hj]; simpa using h2, by rw [hj]; simpa using h3, h4, h5, ?_, ?_⟩
        · rw [List.findIdx?_cons, if_neg (by simp; omega), h6, hj]; rfl
        · rw [List.find?_cons, show (f.born == b) = false by simp [hfb]]; exact h7
theorem sem_entryStore (H : HR B ρ h nx w) {t : TypeId} {m x v : AV} {s : Nat} {c q : Value} {k : IntKind} {h' : Heap} {nx' : Nm} (e : opEntryStore h nx m s x = some (.val v h' nx')) (rm : VR ρ m c) (rx : VR ρ x q) :
    v = undef ∧ nx' = nx ∧ TurnsU P B ρ h' nx w (Instr.entryStore t c (.int k (s : Int)) q) := by
  unfold opEntryStore at e
  split at e
  case h_2 => cases e
  rename_i n
  split at e
  case h_2 => cases e
  rename_i es clock hg
  cases rm with
  | map hn =>
    rename_i b cc
    obtain ⟨fs, hb, R⟩ := H.map hg hn
    split at e
    case h_2 => cases e
    rename_i j e0 hf
    cases e
    obtain ⟨f, h1, h2, h3, h4, h5, h6, h7⟩ := findBorn_some R hf
    simp only [Nat.sub_zero] at h2 h6
    have R' : LR (ER ρ) (es.set j (e0.1, x, e0.2.2)) (fs.set j { f with val := q }) := R.set (a := (e0.1, x, e0.2.2)) (b := { f with val := q }) ⟨h4.1, rx, h4.2.2⟩ j
    obtain ⟨H2, T2⟩ := map_upd H hg hn clock R'
    refine ⟨rfl, rfl, _, ?_, by rw [setN_eq]; exact H2, T2⟩
    have h6' : fs.toArray.findIdx? (fun e => (e.born : Int) == (s : Int)) = some j := by simpa using h6
    simp only [Instr.entryStore, Sem.run_bind, Sem.run_pure, Result.andThen_ok, run_getObj hb (by simp), asInt, asIntOf, h6']
    rw [amodify_set _ _ _ h2, run_setObj _ hb (by simp)]
theorem eraseN_eq {α : Type} : ∀ (l : List α) (n : Nat), eraseN l n = l.eraseIdx n
  | [], n => by cases n <;> rfl
  | x :: l, 0 => rfl
  | x :: l, n + 1 => by simp [eraseN, eraseN_eq l n]
theorem LR.erase {α β : Type} {R : α → β → Prop} {l : List α} {m : List β} (h : LR R l m) : ∀ n, LR R (l.eraseIdx n) (m.eraseIdx n) := by
  induction h with
  | nil => intro n; simp; exact .nil
  | cons hab t ih => intro n; cases n with
    | zero => simpa using t
    | succ n => simpa using .cons hab (ih n)
theorem sem_delete (K : TabOk P T) (H : HR B ρ h nx w) {t : TypeId} {m k v : AV} {c d : Value} {h' : Heap} {nx' : Nm} (us : Array TypeId) (ty : TypeId) (hus : us[0]? = some t)
    (e : opDelete T h nx t m k = some (.val v h' nx')) (rm : VR ρ m c) (rk : VR ρ k d) :
    v = undef ∧ nx' = nx ∧ Turns P B ρ h' nx w v (Builtin.delete_ us ty #[c, d]) := by
  unfold opDelete at e
  split at e
  case h_2 => cases e
  rename_i n
  split at e
  case h_2 => cases e
  rename_i KK hKK
  unfold keyed at hKK
  split at hKK
  case h_2 => cases hKK
  rename_i ti ht
  obtain ⟨i, z, dt, hi, hs, hby, hz, hzf, hz0, hu, hk, ha, hfk⟩ := K.get ht
  split at hKK
  case h_2 => cases hKK
  rename_i kt el hd
  rw [hd] at hk; cases kind_map hk
  obtain ⟨dk, o⟩ := keyOf_ok K hKK
  unfold mapDel at e
  split at e
  case h_2 => cases e
  rename_i es clock hg
  cases rm with
  | map hn =>
    rename_i b cc
    obtain ⟨fs, hb, R⟩ := H.map hg hn
    split at e
    · rename_i j e0 hseek
      cases e
      obtain ⟨h1, r, h2, h3⟩ := seek_rel (w := w) o rk R hseek
      obtain ⟨f, _, hf, hr, rfl⟩ := h3
      simp only [Nat.sub_zero] at hf
      obtain ⟨H2, T2⟩ := map_upd H hg hn clock (R.erase j)
      refine ⟨rfl, rfl, Go.undef, _, ?_, undef_rel, by rw [eraseN_eq]; exact H2, T2⟩
      have hlt := (List.getElem?_eq_some_iff.1 hf).1
      have her : fs.toArray.eraseIdxIfInBounds j = (fs.eraseIdx j).toArray := by
        simp [Array.eraseIdxIfInBounds, hlt]
      simp only [Builtin.delete_, List.getElem?_toArray, List.getElem?_cons_zero, List.getElem?_cons_succ, hus, Sem.run_bind, run_und w hu, Result.andThen_ok, run_getObj hb (by simp), h1, h2]
      simp only [her, run_setObj _ hb (show ∀ c t f, Obj.map fs.toArray clock ≠ .cells c t f by simp), Sem.run_pure, Result.andThen_ok, Go.undef]
    · rename_i hseek
      cases e
      obtain ⟨h1, r, h2, h3⟩ := seek_rel (w := w) o rk R hseek
      simp only [FoundR] at h3
      subst h3
      refine ⟨rfl, rfl, Go.undef, _, ?_, undef_rel, H, .refl _ _⟩
      simp only [Builtin.delete_, List.getElem?_toArray, List.getElem?_cons_zero, List.getElem?_cons_succ, hus, Sem.run_bind, run_und w hu, Result.andThen_ok, run_getObj hb (by simp), h1, h2]
      simp only [run_setObj _ hb (show ∀ c t f, Obj.map fs.toArray clock ≠ .cells c t f by simp), Sem.run_pure, Result.andThen_ok, Go.undef, putO_self hb]
    · cases e
end
end Go.AM

namespace Go.AM
section
variable {P : Program} {T : Tab} {B : Nat} {ρ : Ren} {h : Heap} {nx : Nm} {w : World}

/-- what becomes of s, where a new name may be given -/
def Comes (P : Program) (B : Nat) (ρ : Ren) (nx : Nm) (h' : Heap) (nx' : Nm) (w : World) (v : AV) (s : Sem Value) : Prop :=
  ∃ c w' ρ', s.run P w = .ok c w' ∧ ρ.le ρ' ∧ (∀ n, n.val < nx.val → ρ' n = ρ n) ∧ nx.val ≤ nx'.val ∧ VR ρ' v c ∧ HR B ρ' h' nx' w' ∧ Turn B w w'
theorem Turns.comes {h' : Heap} {v : AV} {s : Sem Value} (t : Turns P B ρ h' nx w v s) : Comes P B ρ nx h' nx w v s := by
  obtain ⟨c, w', h1, h2, h3, h4⟩ := t
  exact ⟨c, w', ρ, h1, ρ.le_refl, fun _ _ => rfl, Nat.le_refl _, h2, h3, h4⟩
theorem Gives.turns {v : AV} {s : Sem Value} (g : Gives P ρ w v s) (H : HR B ρ h nx w) : Turns P B ρ h nx w v s := by
  obtain ⟨c, w', h1, h2, h3⟩ := g
  exact ⟨c, w', h1, h3, H.alike h2, h2.turn B⟩
theorem Makes.comes {mk : Nm → AV} {a : AO} {s : Sem Value} (m : Makes P ρ w mk a s) (H : HR B ρ h nx w) (hB : B ≤ w.heap.size) : Comes P B ρ nx (h.set (some a) nx) nx.succ w (mk nx) s := by
  obtain ⟨c, o, k, w', h1, h2, h3, h4, h5, h6⟩ := m
  obtain ⟨h7, h8⟩ := h6 nx H.nx_free
  refine ⟨c, w', _, h1, Ren.le_put _ H.nx_free, ?_, by rw [Nm.val_succ]; omega, h7, H.new hB h2 h8, Turn.push hB h2 h3 h4 h5⟩
  intro n hn
  exact Ren.put_other ρ _ (fun e => by rw [e] at hn; omega)

/-! ### maps that are walked -/
theorem sem_range (K : TabOk P T) (H : HR B ρ h nx w) (hB : B ≤ w.heap.size) {t : TypeId} {x v : AV} {c : Value} {h' : Heap} {nx' : Nm} (e : opRange T h nx t x = some (.val v h' nx')) (r : VR ρ x c) :
    Comes P B ρ nx h' nx' w v (Instr.range t c) := by
  unfold opRange at e
  split at e
  case h_2 => cases e
  rename_i ti ht
  obtain ⟨i, z, dt, hi, hs, hby, hz, hzf, hz0, hu, hk, ha, hfk⟩ := K.get ht
  split at e
  case h_2 => cases e
  rename_i kt el hd
  rw [hd] at hk; cases kind_map hk
  split at e
  · cases e; cases r
    refine Makes.comes (mk := fun n => .ptr n 0) (a := .iter none 0 [] 0) ⟨.pointer (some ⟨w.heap.size, 0, none⟩), .mapIter none 0 #[] 0, 0, w.alloc (.mapIter none 0 #[] 0), ?_, rfl, rfl, rfl, rfl, fun n hn => ⟨.ptr 0 (Ren.put_same _ _ _), .iter0 _ _ _ _⟩⟩ H hB
    simp [Instr.range, run_und w hu, newObj, Sem.run]
  · rename_i n
    split at e
    case h_2 => cases e
    rename_i es clock hg
    cases e
    cases r with
    | map hn =>
      rename_i b cc
      obtain ⟨fs, hb, R⟩ := H.map hg hn
      refine Makes.comes (mk := fun n => .ptr n 0) (a := .iter (some n) clock [] clock) ⟨.pointer (some ⟨w.heap.size, 0, none⟩), .mapIter (some b) clock #[] clock, 0, w.alloc (.mapIter (some b) clock #[] clock), ?_, rfl, rfl, rfl, rfl, fun m hm => ⟨.ptr 0 (Ren.put_same _ _ _), .iter _ _ _ _ (Ren.le_put _ hm _ _ hn)⟩⟩ H hB
      simp only [Instr.range, Sem.run_bind, run_und w hu, Result.andThen_ok, run_getObj hb (by simp)]
      simp [newObj, Sem.run]
  · cases e
theorem HR.iter (H : HR B ρ h nx w) {n : Nm} {mo : Option Nm} {since : Nat} {seen : List Nat} {last : Nat} {b c : Nat} (hg : h.get n = some (.iter mo since seen last)) (hn : ρ n = some (b, c)) :
    (mo = none ∧ w.heap[b]? = some (.mapIter none since seen.toArray last)) ∨ ∃ m mb mc, mo = some m ∧ ρ m = some (mb, mc) ∧ w.heap[b]? = some (.mapIter (some mb) since seen.toArray last) := by
  have r := H.obj n _ b c hg hn
  generalize ho : w.heap[b]? = o at r
  cases r with
  | iter0 => exact .inl ⟨rfl, rfl⟩
  | iter _ _ _ _ hm => exact .inr ⟨_, _, _, rfl, hm, rfl⟩
theorem lastL_eq {α : Type} : ∀ (l : List α), lastL l = l.getLast?
  | [] => rfl
  | [x] => rfl
  | x :: y :: l => by
    show lastL (y :: l) = _
    rw [lastL_eq (y :: l)]; simp
theorem sem_entry (H : HR B ρ h nx w) {x v : AV} {c : Value} (e : opEntry h x = some v) (r : VR ρ x c) : Gives P ρ w v (Instr.entry c) := by
  unfold opEntry at e
  split at e
  case h_2 => cases e
  rename_i n off
  split at e
  case h_2 => cases e
  rename_i hz
  rw [isZ_iff] at hz
  subst hz
  cases r with
  | ptr _ hn =>
    rename_i b cc
    unfold entryR at e
    split at e
    case h_2 => cases e
    rename_i mo since seen stepped hg
    split at e
    case h_2 => cases e
    rename_i m stamp hm hst
    rcases H.iter hg hn with ⟨h1, _⟩ | ⟨m', mb, mc, h1, h2, h3⟩
    · cases h1
    · cases h1
      unfold entryIn at e
      split at e
      case h_2 => cases e
      rename_i es clock hgm
      obtain ⟨fs, hb, R⟩ := H.map hgm h2
      split at e
      case h_2 => cases e
      rename_i hcl
      rw [beq_iff] at hcl
      subst hcl
      simp only [Option.map_eq_some_iff] at e
      obtain ⟨⟨j, e0⟩, hf, rfl⟩ := e
      obtain ⟨f, _, _, _, h4, _, _, h7⟩ := findBorn_some R hf
      rw [lastL_eq] at hst
      refine .of (c := .tuple #[f.key, f.val]) ?_ (.tup (.cons h4.1 (.cons h4.2.1 .nil)))
      simp only [Instr.entry, Sem.run_bind, run_getObj h3 (by simp), Result.andThen_ok, List.back?_toArray, hst, run_getObj hb (by simp)]
      simp [h7]
theorem notIn_eq (n : Nat) : ∀ l : List Nat, notIn n l = !l.contains n
  | [] => by simp [notIn]
  | m :: l => by
    simp only [notIn, notIn_eq n l, List.contains_cons]
    cases hb : Nat.beq n m
    · have : n ≠ m := Nat.ne_of_beq_eq_false hb
      simp [this]
    · have : n = m := Nat.eq_of_beq_eq_true hb
      simp [this]
theorem leftOf_rel (seen : List Nat) : ∀ {es : List (AV × AV × Nat)} {fs : List MapEntry}, LR (ER ρ) es fs → LR (ER ρ) (leftOf seen es) (fs.filter fun e => !seen.contains e.born)
  | [], _, r => by cases r; exact .nil
  | e :: es, fs, r => by
    cases r with
    | cons r0 r1 =>
      rename_i f fs
      simp only [leftOf]
      have : notIn e.2.2 seen = !seen.contains f.born := by rw [notIn_eq, r0.2.2]
      rw [this, List.filter_cons]
      cases hc : (!seen.contains f.born)
      · simp only [Bool.false_eq_true, if_false]; exact leftOf_rel seen r1
      · simp only [if_true]; exact .cons r0 (leftOf_rel seen r1)
theorem allOld_rel (since : Nat) : ∀ {es : List (AV × AV × Nat)} {fs : List MapEntry}, LR (ER ρ) es fs → allOld since es = true → ∀ f ∈ fs, f.born < since
  | [], _, r, _ => by cases r; simp
  | e :: es, fs, r, h => by
    cases r with
    | cons r0 r1 =>
      simp only [allOld, Bool.and_eq_true, ble_iff] at h
      intro f hf
      rcases List.mem_cons.1 hf with rfl | hf
      · rw [← r0.2.2]; exact h.1
      · exact allOld_rel since r1 h.2 f hf
theorem allNew_rel (last : Nat) : ∀ {es : List (AV × AV × Nat)} {fs : List MapEntry}, LR (ER ρ) es fs → allNew last es = fs.all fun f => decide (f.born ≥ last)
  | [], _, r => by cases r; simp [allNew]
  | e :: es, fs, r => by
    cases r with
    | cons r0 r1 =>
      rename_i f fs
      simp only [allNew, List.all_cons, allNew_rel last r1]
      congr 1
      rw [Bool.eq_iff_iff, ble_iff, r0.2.2]; simp
theorem emptyL_iff {α : Type} (l : List α) : emptyL l = l.isEmpty := by cases l <;> rfl
/-- what becomes of a step of a walk -/
def Picks (P : Program) (B : Nat) (ρ : Ren) (nx : Nm) (w : World) (r : ARes) (s : Sem Value) : Prop :=
  ∃ v h', (r = .val v h' nx ∨ ∃ l, r = .alts l ∧ .val v h' nx ∈ l) ∧ Turns P B ρ h' nx w v s
theorem sem_next (H : HR B ρ h nx w) {x : AV} {c : Value} {r : ARes} (ty : TypeId) (e : opNext h nx x = some r) (rx : VR ρ x c) : Picks P B ρ nx w r (Instr.next c false ty) := by
  unfold opNext at e
  split at e
  case h_2 => cases e
  rename_i n off
  split at e
  case h_2 => cases e
  rename_i hz
  rw [isZ_iff] at hz
  subst hz
  cases rx with
  | ptr _ hn =>
    rename_i b cc
    unfold nextR at e
    split at e
    case h_2 => cases e
    rename_i mo since seen last hg
    rcases H.iter hg hn with ⟨h1, h2⟩ | ⟨m, mb, mc, h1, h2, h3⟩
    · subst h1
      simp only at e
      cases e
      refine ⟨_, _, .inl rfl, .tuple #[.bool false], w, ?_, .tup (.cons (.bool _) .nil), H, .refl _ _⟩
      simp [Instr.next, run_getObj h2]
    · subst h1
      simp only at e
      unfold nextIn at e
      split at e
      case h_2 => cases e
      rename_i es clock hgm
      obtain ⟨fs, hb, R⟩ := H.map hgm h2
      split at e
      · cases e
      · rename_i hcond
        have hcond' : (!seen.toArray.isEmpty && !fs.toArray.isEmpty && fs.toArray.all (fun e => decide (e.born ≥ last))) = false := by
          rw [emptyL_iff, emptyL_iff, allNew_rel last R] at hcond
          have : es.isEmpty = fs.isEmpty := by
            have := R.length
            cases es <;> cases fs <;> simp at this <;> rfl
          rw [this] at hcond
          simpa using hcond
        have RL := leftOf_rel (ρ := ρ) seen R
        have hleft : fs.toArray.filter (fun e => !seen.toArray.contains e.born) = (fs.filter fun e => !seen.contains e.born).toArray := by simp
        -- the run up to the choice
        have pre : ∀ (cands : Array (Option MapEntry)), (let left := fs.toArray.filter (fun e => !seen.toArray.contains e.born)
            let old := left.filter (·.born < since)
            let new := left.filter (·.born ≥ since)
            (if old.isEmpty then #[none] else #[]) ++ (old ++ new).map some) = cands →
            (Instr.next (.pointer (some ⟨b, 0, none⟩)) false ty).run P w = ((choose (.mapNext cands.size)).run P w).andThen fun k w1 => (match cands[k]? with
              | some (some e) => (do
                setObj b (.mapIter (some mb) since (seen.toArray.push e.born) clock)
                pure (.tuple #[.bool true, e.key, e.val]) : Sem Value)
              | some none => pure (.tuple #[.bool false])
              | none => stuck "Next: no such candidate").run P w1 := by
          intro cands hc
          subst hc
          simp only [Instr.next, Sem.run_bind, run_getObj h3 (by simp), Result.andThen_ok, run_getObj hb (by simp), hcond', Bool.false_eq_true, if_false, Sem.run_pure]
          rfl
        split at e
        · rename_i hl
          cases e
          rw [hl] at RL
          have hfl : (fs.filter fun e => !seen.contains e.born) = [] := by cases RL' : (fs.filter fun e => !seen.contains e.born) with
            | nil => rfl
            | cons a l => rw [RL'] at RL; cases RL
          refine ⟨_, _, .inl rfl, .tuple #[.bool false], w, ?_, .tup (.cons (.bool _) .nil), H, .refl _ _⟩
          rw [pre #[none] (by simp only [hleft, hfl]; simp)]
          simp [choose, Sem.run, Question.forced]
        · rename_i e1 l1 hl
          rw [hl] at RL
          split at e
          case h_2 => cases e
          rename_i hold
          have hall := allOld_rel since RL hold
          generalize hF : (fs.filter fun e => !seen.contains e.born) = F at RL hall hleft
          have hne : F ≠ [] := by intro h0; rw [h0] at RL; cases RL
          have hc : (let left := fs.toArray.filter (fun e => !seen.toArray.contains e.born)
            let old := left.filter (·.born < since)
            let new := left.filter (·.born ≥ since)
            (if old.isEmpty then #[none] else #[]) ++ (old ++ new).map some) = (F.map some).toArray := by
            simp only [hleft]
            have e1 : F.filter (fun e => decide (e.born < since)) = F := List.filter_eq_self.2 (fun f hf => by simpa using hall f hf)
            have e2 : F.filter (fun e => decide (e.born ≥ since)) = [] := List.filter_eq_nil_iff.2 (fun f hf => by have := hall f hf; simp; omega)
            have a1 : F.toArray.filter (fun e => decide (e.born < since)) = F.toArray := by rw [List.filter_toArray, e1]
            have a2 : F.toArray.filter (fun e => decide (e.born ≥ since)) = #[] := by rw [List.filter_toArray, e2]
            rw [a1, a2]
            simp [hne]
          have hrun := pre _ hc
          -- one of them
          have pick : ∀ (k : Nat) (hk : k < F.length) (w1 : World), Alike w w1 → ∃ e2, (e1 :: l1)[k]? = some e2 ∧ ∃ w2,
              ((match (F.map some).toArray[k]? with
              | some (some e) => (do
                setObj b (.mapIter (some mb) since (seen.toArray.push e.born) clock)
                pure (.tuple #[.bool true, e.key, e.val]) : Sem Value)
              | some none => pure (.tuple #[.bool false])
              | none => stuck "Next: no such candidate").run P w1 = .ok (.tuple #[.bool true, F[k].key, F[k].val]) w2) ∧
              VR ρ (.tup [.bool true, e2.1, e2.2.1]) (.tuple #[.bool true, F[k].key, F[k].val]) ∧ HR B ρ (h.set (some (.iter (some m) since (seen ++ [e2.2.2]) clock)) n) nx w2 ∧ Turn B w w2 := by
            intro k hk w1 hal
            obtain ⟨e2, he2, hr⟩ := RL.get' (i := k) (b := F[k]) (by simp [hk])
            have hb1 : w1.heap[b]? = some (.mapIter (some mb) since seen.toArray last) := by rw [hal.heap]; exact h3
            have hlow := H.low _ _ _ hn
            have hlow1 : b < w1.heap.size := by rw [hal.heap]; exact hlow.2
            refine ⟨e2, he2, putO w1 b (.mapIter (some mb) since (seen.toArray.push F[k].born) clock), ?_, .tup (.cons (.bool _) (.cons hr.1 (.cons hr.2.1 .nil))), ?_, ?_⟩
            · have hget : (F.map some).toArray[k]? = some (some F[k]) := by simp [hk]
              simp only [hget, Sem.run_bind, run_setObj _ hb1 (show ∀ c t f, Obj.mapIter (some mb) since seen.toArray last ≠ .cells c t f by simp), Result.andThen_ok, Sem.run_pure]
            · refine (H.alike hal).upd hg hn (putO_size _ _ _) (fun k hk => putO_other _ hk) ?_
              rw [putO_same hlow1, hr.2.2]
              have := OR.iter (ρ := ρ) since (seen ++ [F[k].born]) clock cc h2
              simpa using this
            · exact (hal.turn B).trans (Turn.upd hlow.1 (putO_size _ _ _) (fun k hk => putO_other _ hk) rfl rfl rfl)
          split at e
          · rename_i hl1
            cases e
            have hlen : F.length = 1 := by rw [← RL.length]; rfl
            obtain ⟨e2, he2, w2, p1, p2, p3, p4⟩ := pick 0 (by omega) w (.refl w)
            simp at he2; subst he2
            refine ⟨_, _, .inl rfl, _, w2, ?_, p2, p3, p4⟩
            rw [hrun]
            have hsz : (F.map some).toArray.size = 1 := by simp [hlen]
            rw [hsz]
            simp only [choose, Sem.run, Question.forced, Nat.le_refl, decide_true, if_true, Result.andThen_ok]
            exact p1
          · rename_i hl1
            cases e
            have hlen : ¬ F.length ≤ 1 := by
              rw [← RL.length]
              cases l1 with
              | nil => exact absurd rfl hl1
              | cons _ _ => simp
            have hk : (w.tape w.drawn (.mapNext F.length)) % F.length < F.length := Nat.mod_lt _ (by omega)
            obtain ⟨e2, he2, w2, p1, p2, p3, p4⟩ := pick _ hk w.drew (.drew w)
            refine ⟨_, _, .inr ⟨_, rfl, List.mem_map.2 ⟨e2, List.mem_of_getElem? he2, rfl⟩⟩, _, w2, ?_, p2, p3, p4⟩
            rw [hrun]
            have hsz : (F.map some).toArray.size = F.length := by simp
            rw [hsz]
            have hfc : (Question.mapNext F.length).forced = false := by simp [Question.forced]; omega
            simp only [choose, Sem.run, hfc, Bool.false_eq_true, if_false, Question.cut, Result.andThen_ok]
            exact p1
end
end Go.AM

namespace Go.AM
section
variable {P : Program} {T : Tab} {B : Nat} {ρ : Ren} {h : Heap} {nx : Nm} {w : World}

theorem growBy_le (n : Nat) : ∀ (r c : Nat), Builtin.growBy n r c ≤ max c (n + (n + 768) / 4)
  | 0, c => by simp [Builtin.growBy]; omega
  | r + 1, c => by
    simp only [Builtin.growBy]
    split
    · omega
    · have := growBy_le n r (c + (c + 768) / 4)
      omega
theorem nextcap_le (n old : Nat) (h : old < n) : Builtin.nextslicecap n old ≤ 2 * n + 768 := by
  unfold Builtin.nextslicecap
  split
  · omega
  · split
    · omega
    · have := growBy_le n 4 old
      omega
theorem cap_fits {n old by' : Nat} (h : old < n) (h1 : n * by' ≤ 68719476736) (h2 : by' ≤ 68719476736) : ¬ (Builtin.nextslicecap n old * by' > 2 ^ 48) := by
  have h3 := nextcap_le n old h
  have h4 : Builtin.nextslicecap n old * by' ≤ (2 * n + 768) * by' := Nat.mul_le_mul_right _ h3
  have h5 : (2 * n + 768) * by' = 2 * (n * by') + 768 * by' := by rw [Nat.add_mul, Nat.mul_assoc]
  have : (2 : Nat) ^ 48 = 281474976710656 := by decide
  omega
theorem run_askRoom (k : Nat) : (askRoom k).run P w = .ok () w := by
  unfold askRoom
  split <;> simp [mark, Sem.run]

/-- what an append brings: n elements of these cells -/
structure News (P : Program) (w : World) (us : Array TypeId) (el : TypeId) (ie : TypeInfo) (x : Value) (n : Nat) (ds : List Value) (zeros : Bool) : Prop where
  xt : ∃ xt d, us[1]? = some xt ∧ P.underlying xt = some d ∧ (zeros = true ↔ ∃ k, d = .int k)
  num : zeros = true → ∃ k, x = .int k (n : Int)
  len : zeros = false → (Builtin.lenOf x).run P w = .ok n w
  cells : zeros = false → ∀ w2 : World, w2.heap = w.heap → (Builtin.firstCells ie.size n x).run P w2 = .ok ds.toArray w2
  zero : zeros = true → ∃ z, ie.zero = some z ∧ z.cells.size = ie.size ∧ ds = (List.replicate n z.cells.toList).flatten
  size : ds.length = n * ie.size
theorem zeroCells_eq (z : Value) (n : Nat) : Builtin.zeroCells z.cells n = (List.replicate n z.cells.toList).flatten.toArray := by
  have := range_mod' z.cells.toList n
  simp only [Builtin.zeroCells]
  rw [show z.cells.toList.length = z.cells.size by simp] at this
  simp only [Array.toArray_toList] at this
  rw [this]
theorem app_num {us : Array TypeId} {el : TypeId} {ie : TypeInfo} {x : Value} {n : Nat} {ds : List Value} (N : News P w us el ie x n ds true) (hb : n * ie.bytes ≤ 68719476736) (hn : n ≤ 1073741824) :
    ∃ k, x = .int k (n : Int) ∧ IntKind.i64.wrap (n : Int) = n ∧ ¬ ((n : Int) * (ie.bytes : Int) > 2 ^ 48) := by
  obtain ⟨k, hk⟩ := N.num rfl
  refine ⟨k, hk, topOf_wrap .i64 n (by simp [topOf]; omega), ?_⟩
  have : ((n : Int) * (ie.bytes : Int)) = ((n * ie.bytes : Nat) : Int) := by simp
  rw [this]
  have : (2 : Int) ^ 48 = 281474976710656 := by decide
  rw [this]; omega
theorem app_fit {us : Array TypeId} {t el : TypeId} {ie : TypeInfo} {x : Value} {n : Nat} {ds : List Value} {zeros : Bool} (N : News P w us el ie x n ds zeros) (hie : P.info? el = some ie) (ty : TypeId)
    (hus : us[0]? = some t) (hu : P.underlying t = some (.slice el)) (base : Option Addr) (sLen sCap : Nat) (hfit : sLen + n ≤ sCap) (hb : n * ie.bytes ≤ 68719476736) (hn : n ≤ 1073741824) :
    (Builtin.append_ us ty #[.slice base sLen sCap, x]).run P w = (match base with
      | some a => ((Go.storeCells (a.add (sLen * ie.size)) ds).run P w).andThen fun _ w' => .ok (.slice base (sLen + n) sCap) w'
      | none => .ok (.slice none (sLen + n) sCap) w) := by
  obtain ⟨xt, d, h1, h2, h3⟩ := N.xt
  cases zeros with
  | true =>
    obtain ⟨kd, rfl⟩ := h3.1 rfl
    obtain ⟨k, rfl, hw, hbig⟩ := app_num N hb hn
    obtain ⟨z, hz, hzs, rfl⟩ := N.zero rfl
    simp only [Builtin.append_, List.getElem?_toArray, List.getElem?_cons_zero, List.getElem?_cons_succ, hus, h1, Sem.run_bind, run_und w hu, run_und w h2, run_size w hie, run_info w hie, Result.andThen_ok, Sem.run_pure, if_true, asInt, asIntOf, hw]
    rw [if_neg (by omega)]
    simp only [Result.andThen_ok, Sem.run_pure, Sem.run_bind, run_info w hie, if_neg hbig, Int.toNat_natCast, if_pos hfit, Bool.not_true, Bool.false_eq_true, if_false]
    by_cases h0 : n * ie.size = 0
    · have hl : (List.replicate n z.cells.toList).flatten = [] := by
        apply List.eq_nil_of_length_eq_zero
        rw [N.size, h0]
      rw [if_pos h0, hl]
      cases base <;> simp
    · rw [if_neg h0]
      cases base <;> simp [run_zero w hie hz, zeroCells_eq]
  | false =>
    have hni : ∀ k, d ≠ .int k := fun k hk => by have := h3.2 ⟨k, hk⟩; cases this
    have hl := N.len rfl
    have hc := N.cells rfl w rfl
    have hm : (match d with | .int _ => true | _ => false) = false := by cases d <;> first | rfl | exact absurd rfl (hni _)
    simp only [Builtin.append_, List.getElem?_toArray, List.getElem?_cons_zero, List.getElem?_cons_succ, hus, h1, Sem.run_bind, run_und w hu, run_und w h2, run_size w hie, Result.andThen_ok, Sem.run_pure, hm, Bool.false_eq_true, if_false, hl, if_pos hfit, Bool.not_false, if_true, hc]
    cases base <;> simp
theorem app_grow {us : Array TypeId} {t el : TypeId} {ie : TypeInfo} {x z : Value} {n : Nat} {ds olds : List Value} {zeros : Bool} (N : News P w us el ie x n ds zeros) (hie : P.info? el = some ie) (ty : TypeId)
    (hz : ie.zero = some z) (hus : us[0]? = some t) (hu : P.underlying t = some (.slice el)) (base : Option Addr) (sLen sCap : Nat) (hgrow : sCap < sLen + n) (hb : (sLen + n) * ie.bytes ≤ 68719476736) (hb1 : ie.bytes ≤ 68719476736) (hn : sLen + n ≤ 1073741824)
    (hold : ∀ w2 : World, w2.heap = w.heap → (Builtin.firstCells ie.size sLen (.slice base sLen sCap)).run P w2 = .ok olds.toArray w2) :
    ∃ cap, sLen + n ≤ cap ∧ (Builtin.append_ us ty #[.slice base sLen sCap, x]).run P w =
      .ok (.slice (some ⟨w.heap.size, 0, none⟩) (sLen + n) cap) (w.drew.alloc (.cells (olds ++ ds ++ (List.replicate (cap - (sLen + n)) z.cells.toList).flatten).toArray el)) := by
  obtain ⟨xt, d, h1, h2, h3⟩ := N.xt
  refine ⟨grownCap w (sLen + n) sCap el, grownCap_ge _ _ _ _, ?_⟩
  have hnfit : ¬ sLen + n ≤ sCap := by omega
  have h63 : ¬ (((sLen + n : Nat) : Int) > IntKind.i64.max) := by
    have : IntKind.i64.max = 9223372036854775807 := by decide
    rw [this]; omega
  have hfits := cap_fits hgrow hb hb1
  have hch : (choose (.appendCap (sLen + n) sCap el)).run P w = .ok (grownCap w (sLen + n) sCap el) w.drew := by
    simp only [choose, Sem.run, Question.forced, Bool.false_eq_true, if_false]
    rfl
  have hb' : n * ie.bytes ≤ 68719476736 := Nat.le_trans (Nat.mul_le_mul_right _ (by omega)) hb
  cases zeros with
  | true =>
    obtain ⟨kd, rfl⟩ := h3.1 rfl
    obtain ⟨k, rfl, hw, hbig⟩ := app_num N hb' (by omega)
    obtain ⟨z', hz', hzs, rfl⟩ := N.zero rfl
    rw [hz] at hz'; cases hz'
    simp only [Builtin.append_, List.getElem?_toArray, List.getElem?_cons_zero, List.getElem?_cons_succ, hus, h1, Sem.run_bind, run_und w hu, run_und w h2, run_size w hie, run_info w hie, Result.andThen_ok, Sem.run_pure, if_true, asInt, asIntOf, hw]
    rw [if_neg (by omega)]
    simp only [Result.andThen_ok, Sem.run_pure, Sem.run_bind, run_info w hie, if_neg hbig, Int.toNat_natCast, if_neg hnfit, Bool.not_true, Bool.false_eq_true, if_false]
    rw [if_neg (fun hh => h63 hh.1)]
    simp only [Result.andThen_ok, Sem.run_pure, Sem.run_bind, run_info w hie, if_neg hfits, hch, run_askRoom, run_info w.drew hie, hold w.drew rfl]
    by_cases h0 : n * ie.size = 0
    · have hl : (List.replicate n z.cells.toList).flatten = [] := by
        apply List.eq_nil_of_length_eq_zero
        rw [N.size, h0]
      rw [if_pos h0, hl]
      simp [run_zero w.drew hie hz, zeroCells_eq, newRow, newObj, Sem.run]
    · rw [if_neg h0]
      simp [run_zero w.drew hie hz, zeroCells_eq, newRow, newObj, Sem.run]
  | false =>
    have hni : ∀ k, d ≠ .int k := fun k hk => by have := h3.2 ⟨k, hk⟩; cases this
    have hl := N.len rfl
    have hm : (match d with | .int _ => true | _ => false) = false := by cases d <;> first | rfl | exact absurd rfl (hni _)
    simp only [Builtin.append_, List.getElem?_toArray, List.getElem?_cons_zero, List.getElem?_cons_succ, hus, h1, Sem.run_bind, run_und w hu, run_und w h2, run_size w hie, run_info w hie, Result.andThen_ok, Sem.run_pure, hm, Bool.false_eq_true, if_false, hl, if_neg hnfit, Bool.not_false, if_true]
    rw [if_neg (fun hh => h63 hh.1)]
    simp only [Result.andThen_ok, Sem.run_pure, Sem.run_bind, run_info w hie, if_neg hfits, hch, run_askRoom, run_info w.drew hie, hold w.drew rfl, N.cells rfl w.drew rfl]
    simp [run_zero w.drew hie hz, zeroCells_eq, newRow, newObj, Sem.run]
end
end Go.AM

namespace Go.AM
section
variable {P : Program} {T : Tab} {B : Nat} {ρ : Ren} {h : Heap} {nx : Nm} {w : World}

theorem HR.kill (H : HR B ρ h nx w) (n : Nm) : HR B ρ (h.set none n) nx w := by
  have old : ∀ {m p}, (h.set none n).get m = some p → h.get m = some p := by
    intro m p e
    by_cases hm : m = n
    · subst hm; rw [get_set_same] at e; cases e
    · rwa [get_set_other _ _ _ _ (Ne.symm hm)] at e
  refine ⟨fun m p b c e1 e2 => H.obj m p b c (old e1) e2, fun m k p q b c d e1 e2 e3 e4 => H.inj m k p q b c d (old e1) (old e2) e3 e4, H.low, fun m hm => ⟨?_, (H.fresh m hm).2⟩⟩
  by_cases hmn : m = n
  · subst hmn; exact get_set_same _ _ _
  · rw [get_set_other _ _ _ _ (Ne.symm hmn)]; exact (H.fresh m hm).1

theorem lenOf_rel {x : AV} {n : Nat} {c : Value} (e : lenOf x = some n) (r : VR ρ x c) (w : World) : (Builtin.lenOf c).run P w = .ok n w := by
  unfold lenOf at e
  split at e
  · cases e; cases r; simp [Builtin.lenOf]
  · cases e; cases r; simp [Builtin.lenOf]
  · cases e; cases r; simp [Builtin.lenOf]
  · cases e; cases r; simp [Builtin.lenOf]
  · cases e; cases r; simp [Builtin.lenOf, size_len]
  · cases e
theorem load_after {a : Addr} {ds : List Value} (hc : ∀ j v, ds[j]? = some v → w.cell? (Addr.add a j) = some v) {w2 : World} (hw : w2.heap = w.heap) : (Go.loadCells a ds.length).run P w2 = .ok ds.toArray w2 := by
  refine run_loadCells_list (P := P) w2 a ds fun j v hv => ?_
  have := hc j v hv
  simp only [World.cell?] at this ⊢
  rw [hw]; exact this
theorem firstCells_rel (H : HR B ρ h nx w) {size n : Nat} {x : AV} {c : Value} {cs : List AV} (e : firstCells h size n x = some cs) (r : VR ρ x c) :
    ∃ ds : List Value, VsR ρ cs ds ∧ ds.length = n * size ∧ ∀ w2 : World, w2.heap = w.heap → (Builtin.firstCells size n c).run P w2 = .ok ds.toArray w2 := by
  unfold firstCells at e
  split at e
  · cases r with
    | slc _ _ _ hn =>
      obtain ⟨ds, h1, h2, _, q2⟩ := load_list (P := P) H e hn
      refine ⟨ds, h1, h2, fun w2 hw => ?_⟩
      have := load_after (P := P) q2 hw
      rw [h2] at this
      exact this
  · cases r with
    | slu _ _ _ _ hn _ _ =>
      obtain ⟨ds, h1, h2, _, q2⟩ := load_list (P := P) H e hn
      refine ⟨ds, h1, h2, fun w2 hw => ?_⟩
      have := load_after (P := P) q2 hw
      rw [h2] at this
      exact this
  · split at e
    · cases e; cases r
      exact ⟨[], .nil, by simp, fun w2 _ => by simp [Builtin.firstCells]⟩
    · cases e
  · split at e
    · cases e; cases r
      exact ⟨[], .nil, by simp, fun w2 _ => by simp [Builtin.firstCells, Go.loadCells, loadCellsFrom]⟩
    · cases e
  · cases r
    rename_i s
    split at e
    case h_2 => cases e
    rename_i hs
    rw [beq_iff] at hs
    subst hs
    simp only [Option.map_eq_some_iff] at e
    obtain ⟨l, hl, rfl⟩ := e
    obtain ⟨hle, rfl⟩ := takeX_some hl
    refine ⟨((s.extract 0 n).data.map fun b => Value.int .u8 b.toNat).toList, ?_, ?_, fun w2 _ => by simp only [Builtin.firstCells, Sem.run_pure, Array.toArray_toList]⟩
    · have := bytes_cells (ρ := ρ) (s.extract 0 n)
      have he : (s.extract 0 n).data.toList.map UInt8.toNat = (s.data.toList.map UInt8.toNat).take n := by
        rw [ByteArray.data_extract, Array.toList_extract, List.extract_eq_take_drop]; simp [List.map_take]
      rw [he] at this
      exact this
    · simp only [List.length_map, Array.length_toList] at hle
      simp
      have h2 : s.size = s.data.size := rfl
      omega
  · cases e

theorem news_rel (K : TabOk P T) (H : HR B ρ h nx w) {te : TI} {el : TypeId} {ie : TypeInfo} (hte : T.ty el = some te) (hie : P.info? el = some ie) {us : Array TypeId} {x : AV} {c : Value} {new : List AV} {n : Nat}
    (e : appNews T h te us[1]? x = some (new, n)) (r : VR ρ x c) : ∃ ds zeros, News P w us el ie c n ds zeros ∧ VsR ρ new ds := by
  obtain ⟨ie', ze, de, hie', hse, hbe, hze, hzfe, hz0e, hue, _⟩ := K.get hte
  rw [hie] at hie'; cases hie'
  have hzs := K.zsize hte hie hze
  unfold appNews at e
  split at e
  · rename_i k a
    split at e
    case h_2 => cases e
    rename_i m xi hxi
    simp only [Option.bind_eq_some_iff] at hxi
    obtain ⟨xt, hxt, hx⟩ := hxi
    obtain ⟨i, z, d, hi, hs, hby, hz, hzf, hz0, hu, hk, ha, hfk⟩ := K.get hx
    split at e
    · rename_i kk hd
      rw [hd] at hk; cases kind_int hk
      cases e
      cases r
      have hl : ze.cells.toList.length = ie.size := by rw [← hzs]; simp
      refine ⟨(List.replicate n ze.cells.toList).flatten, true, ⟨⟨xt, _, hxt, hu, by simp⟩, fun _ => ⟨k, rfl⟩, by simp, by simp, fun _ => ⟨ze, hze, hzs, rfl⟩, ?_⟩, ?_⟩
      · simp [hzs]
      · rw [hz0e]; exact (zeroOf_rel (ρ := ρ) ze).rep n
    · cases e
  · split at e
    case h_2 => cases e
    rename_i m xi hlen hxi
    simp only [Option.bind_eq_some_iff] at hxi
    obtain ⟨xt, hxt, hx⟩ := hxi
    obtain ⟨i, z, d, hi, hs, hby, hz, hzf, hz0, hu, hk, ha, hfk⟩ := K.get hx
    split at e
    · cases e
    · rename_i hd
      simp only [Option.map_eq_some_iff, Prod.mk.injEq] at e
      obtain ⟨cs, hf, rfl, rfl⟩ := e
      obtain ⟨ds, h1, h2, h3⟩ := firstCells_rel (P := P) H hf r
      refine ⟨ds, false, ⟨⟨xt, d, hxt, hu, ?_⟩, by simp, fun _ => lenOf_rel hlen r w, ?_, by simp, by rw [h2, hse]⟩, h1⟩
      · constructor
        · intro h; cases h
        · rintro ⟨k, rfl⟩; exact absurd (by rw [hk]; rfl) (hd k)
      · intro _ w2 hw
        rw [hse]; exact h3 w2 hw

/-- a new row that an append made -/
theorem grown_rel (H : HR B ρ h nx w) (hB : B ≤ w.heap.size) {el : TypeId} {cap need size : Nat} {vs : List AV} {ds zs : List Value} (hcap : need ≤ cap) (hl : ds.length = need * size) (hz : zs.length = (cap - need) * size) (r : VsR ρ vs ds) :
    ∃ ρ', ρ.le ρ' ∧ (∀ n, n.val < nx.val → ρ' n = ρ n) ∧ VR ρ' (.slu nx 0 need size) (.slice (some ⟨w.heap.size, 0, none⟩) need cap) ∧
      HR B ρ' (newCells h nx vs el) nx.succ (w.drew.alloc (.cells (ds ++ zs).toArray el)) ∧ Turn B w (w.drew.alloc (.cells (ds ++ zs).toArray el)) := by
  have hsz : (ds ++ zs).toArray.size = cap * size := by
    simp only [List.size_toArray, List.length_append, hl, hz, ← Nat.add_mul]
    congr 1; omega
  have ho : OR (ρ.put nx (w.heap.size, cap * size)) (.cells vs el) (some (.cells (ds ++ zs).toArray el (0, 0))) (cap * size) := by
    have := OR.cells (ρ := ρ.put nx (w.heap.size, cap * size)) (vs := vs) (t := el) (cs := (ds ++ zs).toArray) (fr := (0, 0)) (ds := ds) (rest := zs) (by simp) (VsR.mono (Ren.le_put _ H.nx_free) r) (free00 _)
    rw [hsz] at this
    exact this
  refine ⟨ρ.put nx (w.heap.size, cap * size), Ren.le_put _ H.nx_free, ?_, .slu 0 need size cap (Ren.put_same _ _ _) hcap (by omega), H.new hB rfl ho, Turn.push hB rfl rfl rfl rfl⟩
  intro n hn
  exact Ren.put_other ρ _ (fun e => by rw [e] at hn; omega)
theorem sem_append (K : TabOk P T) (H : HR B ρ h nx w) (hB : B ≤ w.heap.size) {t : TypeId} {s x v : AV} {c d : Value} {h' : Heap} {nx' : Nm} {us : Array TypeId} (hus : us[0]? = some t) (ty : TypeId)
    (e : appendA T h nx t us[1]? s x = some (.val v h' nx')) (rs : VR ρ s c) (rx : VR ρ x d) : Comes P B ρ nx h' nx' w v (Builtin.append_ us ty #[c, d]) := by
  unfold appendA at e
  split at e
  case h_2 => cases e
  rename_i el te hel
  obtain ⟨hu, hte⟩ := elem_get K hel
  obtain ⟨ie, ze, de, hie, hse, hbe, hze, hzfe, hz0e, hue, _⟩ := K.get hte
  have hzs := K.zsize hte hie hze
  split at e
  case h_2 => cases e
  rename_i new n hnew
  split at e
  case h_2 => cases e
  rename_i l hl
  split at e
  case h_2 => cases e
  rename_i hr
  obtain ⟨hs0, hn, hb, hb1⟩ := roomy_get hr
  have hadd : Nat.add l n = l + n := rfl
  rw [hadd] at hn hb
  obtain ⟨ds, zeros, N, rnew⟩ := news_rel (w := w) K H hte hie hnew rx
  have hbn : n * ie.bytes ≤ 68719476736 := by rw [hbe]; exact Nat.le_trans (Nat.mul_le_mul_right _ (by omega)) hb
  have hzl : ∀ k, ((List.replicate k ze.cells.toList).flatten).length = k * ie.size := by intro k; simp [hzs]
  have hbe1 : ie.bytes ≤ 68719476736 := by rw [hbe]; exact hb1
  have hb2 : (l + n) * ie.bytes ≤ 68719476736 := by rw [hbe]; exact hb
  unfold appTo at e
  split at e
  · -- nil
    cases hl
    cases rs
    unfold appNil at e
    split at e
    · cases e
      refine (Turns.comes ⟨.slice none 0 0, w, ?_, .nilslc, H, .refl _ _⟩)
      have := app_fit N hie ty hus hu none 0 0 (by omega) hbn (by omega)
      simpa using this
    · rename_i n
      cases e
      obtain ⟨cap, hcap, hrun⟩ := app_grow N hie ty hze hus hu none 0 0 (by omega) hb2 hbe1 hn (olds := []) (fun w2 _ => by simp [Builtin.firstCells])
      obtain ⟨ρ', h1, h2, h3, h4, h5⟩ := grown_rel H hB (el := el) (cap := cap) (need := n + 1) (size := te.size) (vs := new) (ds := ds) (zs := (List.replicate (cap - (0 + (n + 1))) ze.cells.toList).flatten) (by omega) (by rw [N.size, hse]) (by rw [hzl, hse]; simp) rnew
      rw [Nat.zero_add, List.nil_append] at hrun
      refine ⟨_, _, ρ', hrun, h1, h2, by rw [Nm.val_succ]; omega, h3, ?_, ?_⟩
      · simpa using h4
      · simpa using h5
  · -- a slice whose capacity is known
    rename_i b off l' cp
    cases hl
    cases rs with
    | slc _ _ _ hn' =>
      rename_i bb cc
      unfold appSlc at e
      split at e
      · rename_i hfit
        rw [ble_iff] at hfit
        simp only [Option.map_eq_some_iff] at e
        obtain ⟨h2, hst, hv⟩ := e
        cases hv
        obtain ⟨w', q1, q2, q3⟩ := stores_rel (P := P) H hst hn' rnew
        refine Turns.comes ⟨.slice (some ⟨bb, off, none⟩) (l + n) cp, w', ?_, .slc _ _ _ hn', q2, q3⟩
        have := app_fit N hie ty hus hu (some ⟨bb, off, none⟩) l cp hfit hbn (by omega)
        rw [this]
        simp only [add_eq, hse]
        have hq : Nat.add off (Nat.mul l te.size) = off + l * te.size := rfl
        rw [hq] at q1
        rw [q1]; rfl
      · rename_i hfit
        have hfit' : ¬ l + n ≤ cp := by rw [← ble_iff]; have : Nat.add l n = l + n := rfl; rw [← this, hfit]; simp
        simp only [Option.map_eq_some_iff] at e
        obtain ⟨old, hld, hv⟩ := e
        cases hv
        obtain ⟨os, o1, o2, o3, o4⟩ := load_list (P := P) H hld hn'
        have o2' : os.length = l * te.size := o2
        obtain ⟨cap, hcap, hrun⟩ := app_grow N hie ty hze hus hu (some ⟨bb, off, none⟩) l cp (by omega) hb2 hbe1 hn (olds := os) (fun w2 hw => by
          have := load_after (P := P) o4 hw
          rw [o2'] at this
          rw [hse]; exact this)
        obtain ⟨ρ', h1, h2, h3, h4, h5⟩ := grown_rel H hB (el := el) (cap := cap) (need := l + n) (size := te.size) (vs := old ++ new) (ds := os ++ ds) (zs := (List.replicate (cap - (l + n)) ze.cells.toList).flatten) hcap
          (by rw [List.length_append, N.size, o2', hse, Nat.add_mul]) (by rw [hzl, hse]) (o1.append rnew)
        exact ⟨_, _, ρ', hrun, h1, h2, by rw [Nm.val_succ]; omega, h3, h4, h5⟩
  · -- a slice that has grown
    rename_i b off l' sz
    cases hl
    split at e
    case h_2 => cases e
    rename_i hcond
    simp only [Bool.and_eq_true, beq_iff, isZ_iff] at hcond
    obtain ⟨rfl, rfl⟩ := hcond
    cases rs with
    | slu _ _ _ cp hn' hle hcc =>
      rename_i bb cc
      split at e
      · cases e
        refine Turns.comes ⟨.slice (some ⟨bb, 0, none⟩) l cp, w, ?_, .slu _ _ _ _ hn' hle hcc, H, .refl _ _⟩
        have := app_fit N hie ty hus hu (some ⟨bb, 0, none⟩) l cp (by omega) hbn (by omega)
        rw [this]
        have hd0 : ds = [] := List.eq_nil_of_length_eq_zero (by rw [N.size]; simp)
        rw [hd0]
        simp [Go.storeCells]
      · rename_i n
        unfold appSlu at e
        split at e
        case h_2 => cases e
        rename_i vs bt hg
        split at e
        case h_2 => cases e
        rename_i hbt
        simp only [Bool.and_eq_true, beq_iff] at hbt
        obtain ⟨rfl, hok⟩ := hbt
        simp only [Option.map_eq_some_iff] at e
        obtain ⟨old, hold, hv⟩ := e
        cases hv
        obtain ⟨hlv, rfl⟩ := takeX_some hold
        obtain ⟨cs, fr, dd, rest, hb', hcs, he, hrr, hf⟩ := H.cells hg hn'
        have hmul : Nat.mul l te.size = l * te.size := rfl
        rw [hmul] at hlv
        have hddl := hrr.length
        have hcs' : cs = (dd ++ rest).toArray := by apply Array.toList_inj.1; rw [he]
        subst hcs'
        have hlow := H.low _ _ _ hn'
        have hsize : (dd ++ rest).length = cp * te.size := by
          have : (dd ++ rest).toArray.size = (dd ++ rest).length := by simp
          omega
        have hdl : ds.length = (n + 1) * te.size := by rw [N.size, hse]
        by_cases hfit : l + (n + 1) ≤ cp
        · -- in its place
          have hroom : l * te.size + ds.length ≤ (dd ++ rest).length := by
            rw [hdl, hsize, ← Nat.add_mul]; exact Nat.mul_le_mul_right _ hfit
          have hst := run_stores (P := P) bb bt fr (l * te.size) ds 0 (dd ++ rest) w hb' (by simpa using hf) (by simpa using hroom) (ok1s_cells hok rnew)
          have hrun := app_fit N hie ty hus hu (some ⟨bb, 0, none⟩) l cp hfit hbn (by omega)
          simp only [add_eq, hse, Nat.zero_add] at hrun
          rw [hst] at hrun
          have hlist : (dd ++ rest).take (l * te.size + 0) ++ ds ++ (dd ++ rest).drop (l * te.size + 0 + ds.length) = (dd.take (l * te.size) ++ ds) ++ (dd ++ rest).drop (l * te.size + ds.length) := by
            rw [Nat.add_zero, List.take_append_of_le_length (by omega)]
          rw [hlist] at hrun
          have hsz2 : (((dd.take (l * te.size) ++ ds) ++ (dd ++ rest).drop (l * te.size + ds.length)).toArray).size = ((dd ++ rest).toArray).size := by
            simp only [List.size_toArray, List.length_append, List.length_take, List.length_drop] at hroom ⊢; omega
          have ho : OR (ρ.put nx (bb, cc)) (.cells (vs.take (l * te.size) ++ new) bt) (putO w bb (.cells ((dd.take (l * te.size) ++ ds) ++ (dd ++ rest).drop (l * te.size + ds.length)).toArray bt fr)).heap[bb]? cc := by
            rw [putO_same hlow.2]
            have := OR.cells (ρ := ρ.put nx (bb, cc)) (vs := vs.take (l * te.size) ++ new) (t := bt) (cs := ((dd.take (l * te.size) ++ ds) ++ (dd ++ rest).drop (l * te.size + ds.length)).toArray) (fr := fr)
              (ds := dd.take (l * te.size) ++ ds) (rest := (dd ++ rest).drop (l * te.size + ds.length)) (by simp) (VsR.mono (Ren.le_put _ H.nx_free) ((hrr.take _).append rnew)) (by rw [hsz2]; exact hf)
            rw [hsz2, ← hcs] at this
            exact this
          refine ⟨_, _, ρ.put nx (bb, cc), hrun, Ren.le_put _ H.nx_free, fun m hm => Ren.put_other ρ _ (fun e => by rw [e] at hm; omega), by rw [Nm.val_succ]; omega, .slu 0 _ _ cp (Ren.put_same _ _ _) hfit hcc,
            H.rename hg hn' (putO_size _ _ _) (fun k hk => putO_other _ hk) ho, Turn.upd hlow.1 (putO_size _ _ _) (fun k hk => putO_other _ hk) rfl rfl rfl⟩
        · -- in a new place
          obtain ⟨os, o1, o2, o3, o4⟩ := load_list (P := P) H (n := b) (off := 0) (k := l * te.size) (xs := vs.take (l * te.size)) (by
            unfold loadCells; rw [hg]; simp only; rw [show dropN 0 vs = vs by rw [dropN_eq]; rfl]; exact hold) hn'
          obtain ⟨cap, hcap, hrun⟩ := app_grow N hie ty hze hus hu (some ⟨bb, 0, none⟩) l cp (by omega) hb2 hbe1 hn (olds := os) (fun w2 hw => by
            have := load_after (P := P) o4 hw
            rw [o2] at this
            rw [hse]; exact this)
          obtain ⟨ρ', h1, h2, h3, h4, h5⟩ := grown_rel (H.kill b) hB (el := bt) (cap := cap) (need := l + (n + 1)) (size := te.size) (vs := vs.take (l * te.size) ++ new) (ds := os ++ ds) (zs := (List.replicate (cap - (l + (n + 1))) ze.cells.toList).flatten) hcap
            (by rw [List.length_append, N.size, o2, hse, Nat.add_mul]) (by rw [hzl, hse]) (o1.append rnew)
          exact ⟨_, _, ρ', hrun, h1, h2, by rw [Nm.val_succ]; omega, h3, h4, h5⟩
  · cases e
end
end Go.AM

namespace Go.AM
section
variable {P : Program} {T : Tab} {B : Nat} {ρ : Ren} {h : Heap} {nx : Nm} {w : World}

theorem minN_eq (a b : Nat) : minN a b = Nat.min a b := by
  unfold minN
  split
  · rename_i h; have := Nat.le_of_ble_eq_true h; show a = min a b; omega
  · rename_i h; have := Nat.not_le_of_not_ble_eq_true (by rw [h]; simp); show b = min a b; omega
theorem sem_copy (K : TabOk P T) (H : HR B ρ h nx w) {t : TypeId} {d s v : AV} {c q : Value} {h' : Heap} {nx' : Nm} {us : Array TypeId} (hus : us[0]? = some t) (ty : TypeId)
    (e : copyA T h nx t d s = some (.val v h' nx')) (rd : VR ρ d c) (rs : VR ρ s q) : nx' = nx ∧ Turns P B ρ h' nx w v (Builtin.copy_ us ty #[c, q]) := by
  unfold copyA at e
  split at e
  case h_2 => cases e
  rename_i el te m l hel hm hl
  obtain ⟨hu, hte⟩ := elem_get K hel
  obtain ⟨ie, ze, de, hie, hse, hbe, hze, hzfe, hz0e, hue, _⟩ := K.get hte
  cases hf : firstCells h te.size (minN m l) s with
  | none => rw [hf] at e; cases e
  | some cs =>
    rw [hf] at e
    simp only [Option.bind_some] at e
    obtain ⟨ds, h1, h2, h3⟩ := firstCells_rel (P := P) H hf rs
    have hlen := lenOf_rel (P := P) hm rs w
    have hcells := h3 w rfl
    rw [minN_eq] at hcells
    unfold copyTo at e
    have main : ∀ (bb off cp : Nat) (w' : World), (Go.storeCells ⟨bb, off, none⟩ ds).run P w = .ok () w' → (Builtin.copy_ us ty #[.slice (some ⟨bb, off, none⟩) l cp, q]).run P w = .ok (Go.goInt (minN m l)) w' := by
      intro bb off cp w' hst
      rw [minN_eq]
      simp [Builtin.copy_, hus, run_und w hu, hlen, run_size w hie, hse, hcells, hst]
    split at e
    · cases e; cases hl; cases rd
      refine ⟨rfl, Go.goInt (minN m 0), w, ?_, .int _ _, H, .refl _ _⟩
      rw [minN_eq]
      simp [Builtin.copy_, hus, run_und w hu, hlen, run_size w hie, hse]
      simp at hcells
      rw [hcells]
      simp
    · cases e; cases hl; cases rd
      refine ⟨rfl, Go.goInt (minN m 0), w, ?_, .int _ _, H, .refl _ _⟩
      have hd0 : ds = [] := List.eq_nil_of_length_eq_zero (by rw [h2, minN_eq]; simp)
      subst hd0
      rw [minN_eq]
      simp [Builtin.copy_, hus, run_und w hu, hlen, run_size w hie, hse]
      simp at hcells
      rw [hcells]
      simp [Go.storeCells]
    · simp only [Option.map_eq_some_iff] at e
      obtain ⟨h2, hst, hv⟩ := e
      cases hv; cases hl
      cases rd with
      | slc _ _ _ hn =>
        obtain ⟨w', q1, q2, q3⟩ := stores_rel (P := P) H hst hn h1
        exact ⟨rfl, _, w', main _ _ _ _ q1, .int _ _, q2, q3⟩
    · simp only [Option.map_eq_some_iff] at e
      obtain ⟨h2, hst, hv⟩ := e
      cases hv; cases hl
      cases rd with
      | slu _ _ _ _ hn _ _ =>
        obtain ⟨w', q1, q2, q3⟩ := stores_rel (P := P) H hst hn h1
        exact ⟨rfl, _, w', main _ _ _ _ q1, .int _ _, q2, q3⟩
    · cases e

/-! ### conversions -/
theorem freeze_at {b : Nat} {cs : Array Value} {t : TypeId} {fr : Nat × Nat} (hb : w.heap[b]? = some (.cells cs t fr)) :
    ∃ fr', w.freeze ⟨b, cs.size, none⟩ 1 = putO w b (.cells cs t fr') ∧ (Free cs.size fr → Free cs.size fr') := by
  refine ⟨if fr.1 == fr.2 then (cs.size, cs.size + 1) else (min fr.1 cs.size, max fr.2 (cs.size + 1)), ?_, ?_⟩
  · unfold World.freeze putO
    rw [if_neg (by simp)]
    congr 1
    apply Array.ext_getElem?
    intro i
    rw [Array.getElem?_modify, Array.getElem?_setIfInBounds]
    by_cases hi : b = i
    · subst hi
      obtain ⟨hlt, hge⟩ := Array.getElem?_eq_some_iff.1 hb
      simp [hlt, hge]
    · simp [hi]
  · intro hf
    split
    · exact .inr (Nat.le_refl _)
    · rename_i hne
      rcases hf with hf | hf
      · exact absurd (by simpa using hf) hne
      · right; simp only; omega
/-- s gives what v stands for, and what lies in the world stays as it is -/
def Keeps (P : Program) (B : Nat) (ρ : Ren) (w : World) (v : AV) (s : Sem Value) : Prop :=
  ∃ c w', s.run P w = .ok c w' ∧ VR ρ v c ∧ Turn B w w' ∧ ∀ h nx, HR B ρ h nx w → HR B ρ h nx w'
theorem Gives.keeps {v : AV} {s : Sem Value} (g : Gives P ρ w v s) : Keeps P B ρ w v s := by
  obtain ⟨c, w', h1, h2, h3⟩ := g
  exact ⟨c, w', h1, h3, h2.turn B, fun h nx H => H.alike h2⟩
theorem Keeps.turns {v : AV} {s : Sem Value} (g : Keeps P B ρ w v s) (H : HR B ρ h nx w) : Turns P B ρ h nx w v s := by
  obtain ⟨c, w', h1, h2, h3, h4⟩ := g
  exact ⟨c, w', h1, h2, h4 h nx H, h3⟩
theorem mark_rel {b off : Nat} (hlow : B ≤ b ∧ b < w.heap.size) :
    ∃ w', (markStringish ⟨b, off, none⟩).run P w = .ok () w' ∧ Turn B w w' ∧ (∀ h2 nx2, HR B ρ h2 nx2 w → HR B ρ h2 nx2 w') := by
  by_cases hc : ∃ cs t fr, w.heap[b]? = some (.cells cs t fr)
  · obtain ⟨cs, t, fr, hb⟩ := hc
    obtain ⟨fr', h1, h2⟩ := freeze_at hb
    refine ⟨putO w b (.cells cs t fr'), ?_, Turn.upd hlow.1 (putO_size _ _ _) (fun k hk => putO_other _ hk) rfl rfl rfl, ?_⟩
    · have hs : w.shape? b = some (t, cs.size) := by simp [World.shape?, hb]
      simp only [markStringish, shape, Sem.run_bind, Sem.run, hs, Result.andThen_ok, freeze, h1]
    · intro h2' nx2 H2
      refine ⟨?_, H2.inj, by rw [putO_size]; exact H2.low, H2.fresh⟩
      intro m o b' c' e1 e2
      by_cases hbb : b' = b
      · subst hbb
        rw [putO_same hlow.2]
        have r := H2.obj m o b' c' e1 e2
        rw [hb] at r
        cases r with
        | segs r => cases r with
          | cells q1 q2 q3 => exact .segs (.cells q1 q2 (h2 q3))
        | cells q1 q2 q3 => exact .cells q1 q2 (h2 q3)
      · rw [putO_other _ hbb]
        exact H2.obj m o b' c' e1 e2
  · have hs : w.shape? b = none := by
      unfold World.shape?
      split
      · rename_i cs t fr hb; exact absurd ⟨_, _, _, hb⟩ hc
      · rfl
    refine ⟨w, ?_, .refl _ _, fun _ _ H => H⟩
    simp only [markStringish, shape, Sem.run_bind, Sem.run, hs, Result.andThen_ok, Sem.run_pure]

theorem isStr_get (K : TabOk P T) {t : TypeId} (h : isStr T t = true) : P.underlying t = some .string := by
  unfold isStr at h
  split at h
  · rename_i ti ht
    obtain ⟨i, z, d, hi, hs, hby, hz, hzf, hz0, hu, hk, ha, hfk⟩ := K.get ht
    split at h
    · rename_i hd
      rw [hd] at hk; cases kind_str hk
      exact hu
    · cases h
  · cases h
theorem sem_convSame (hlow : ∀ n b c, ρ n = some (b, c) → B ≤ b ∧ b < w.heap.size) {src dst el : TypeId} {a v : AV} {c : Value} (hu : P.underlying dst = some (.slice el)) (he : P.underlying el = some (.int .u8))
    (e : convSame dst src a = some v) (r : VR ρ a c) : Keeps P B ρ w v (convert src dst c) := by
  unfold convSame at e
  split at e
  case h_2 => cases e
  rename_i hsd
  rw [beq_iff] at hsd
  subst hsd
  split at e
  · rename_i q1 oo q2 q3
    cases e
    have r' := r
    cases r with
    | slc _ _ _ hn =>
      obtain ⟨w', h1, h2, h3⟩ := mark_rel (P := P) (ρ := ρ) (off := oo) (hlow _ _ _ hn)
      refine ⟨_, w', ?_, r', h2, h3⟩
      simp only [convert, Sem.run_bind, run_und w hu, run_und w he, Result.andThen_ok, beq_self_eq_true, h1, Sem.run_pure]
  · rename_i q1 oo q2 q3
    cases e
    have r' := r
    cases r with
    | slu _ _ _ _ hn _ _ =>
      obtain ⟨w', h1, h2, h3⟩ := mark_rel (P := P) (ρ := ρ) (off := oo) (hlow _ _ _ hn)
      refine ⟨_, w', ?_, r', h2, h3⟩
      simp only [convert, Sem.run_bind, run_und w hu, run_und w he, Result.andThen_ok, beq_self_eq_true, h1, Sem.run_pure]
  · cases e
theorem sem_convStr (K : TabOk P T) (H : HR B ρ h nx w) {src dst : TypeId} {a v : AV} {c : Value} (hd : P.underlying dst = some .string) (e : convStr T h src a = some v) (r : VR ρ a c) : Gives P ρ w v (convert src dst c) := by
  unfold convStr at e
  split at e
  case h_2 => cases e
  rename_i ti ht
  obtain ⟨i, z, d, hi, hs, hby, hz, hzf, hz0, hu, hk, ha, hfk⟩ := K.get ht
  split at e
  · rename_i hdd
    rw [hdd] at hk; cases kind_str hk
    split at e
    · cases e
      have r' := r
      cases r
      exact .of (by simp [convert, run_und w hu, run_und w hd]) r'
    · cases e
  · rename_i el hdd
    rw [hdd] at hk; cases kind_slice hk
    split at e
    case h_2 => cases e
    rename_i hby
    have he := isByte_get K hby
    obtain ⟨c', w', h1, h2, h3⟩ := sem_convBytes (P := P) H e r
    refine ⟨c', w', ?_, h2, h3⟩
    have : ∃ x n m, c = .slice x n m := by
      unfold convBytes at e
      split at e
      · cases r; exact ⟨_, _, _, rfl⟩
      · cases r; exact ⟨_, _, _, rfl⟩
      · cases r; exact ⟨_, _, _, rfl⟩
      · cases r; exact ⟨_, _, _, rfl⟩
      · cases e
    obtain ⟨x, n, m, rfl⟩ := this
    rw [run_convert_bytes_string w src dst el x n m hu he hd]
    exact h1
  · cases e
/-- what a conversion does -/
theorem sem_convert (K : TabOk P T) (H : HR B ρ h nx w) {src dst : TypeId} {a : AV} {c : Value} {r : ARes} (e : opConvert T h nx src dst a = some r) (ra : VR ρ a c) :
    (∃ v, r = .val v h nx ∧ Keeps P B ρ w v (convert src dst c) ∧ (kdV T dst = .load ∨ ∀ h nx, opConvert T h nx src dst a = some (.val v h nx))) ∨
    (kdV T dst = .all ∧ ∃ mk o, Form (fun h nx => opConvert T h nx src dst a) mk o ∧ Makes P ρ w mk o (convert src dst c)) := by
  unfold opConvert at e
  split at e
  case h_1 => cases e
  rename_i si hsi
  obtain ⟨is, zs, ds, _, _, _, _, _, _, hus, _⟩ := K.get hsi
  split at e
  case h_2 => cases e
  rename_i di hdi
  obtain ⟨i, z, d, hi, hs, hby, hz, hzf, hz0, hu, hk, ha, hfk⟩ := K.get hdi
  split at e
  · rename_i k hd
    rw [hd] at hk; cases kind_int hk
    split at e
    · cases e; cases ra
      rename_i n
      left
      refine ⟨_, rfl, Gives.keeps (.of (c := .int k (k.wrap n)) ?_ (by rw [wrapA_eq]; exact .int _ _)), .inl (by simp [kdV, hdi, hd])⟩
      cases ds <;> simp [convert, run_und w hus, run_und w hu, Conv.intToInt]
    · cases e
  · rename_i k hd
    rw [hd] at hk; cases kind_flt hk
    split at e
    · cases e; cases ra
      rename_i n
      left
      refine ⟨_, rfl, Gives.keeps (.of (c := .float k (k.nearest n)) ?_ (.flt _ _)), .inl (by simp [kdV, hdi, hd])⟩
      cases ds <;> simp [convert, run_und w hus, run_und w hu, Conv.intToFloat]
    · cases e
  · rename_i hd
    rw [hd] at hk; cases kind_str hk
    simp only [res, Option.map_eq_some_iff] at e
    obtain ⟨v, hv, rfl⟩ := e
    left
    exact ⟨v, rfl, (sem_convStr (P := P) K H hu hv ra).keeps, .inl (by simp [kdV, hdi, hd])⟩
  · rename_i el hd
    rw [hd] at hk; cases kind_slice hk
    unfold convSlice at e
    split at e
    · cases e
    rename_i hel
    have he := isByte_get K hel
    split at e
    · rename_i hst
      have hs' := isStr_get K hst
      split at e
      · cases e; cases ra
        rename_i s
        right
        refine ⟨by simp [kdV, hdi, hd], _, _, ?_, make_bytes w s hs' hu he⟩
        intro h nx
        simp only [opConvert, hsi, hdi, hd, convSlice, hel, hst, newCells, size_len]
      · cases e
    · rename_i hst
      simp only [res, Option.map_eq_some_iff] at e
      obtain ⟨v, hv, rfl⟩ := e
      left
      refine ⟨v, rfl, sem_convSame H.low hu he hv ra, .inr fun h nx => ?_⟩
      simp only [opConvert, hsi, hdi, hd, convSlice, hel, hst, hv, res, Option.map_some]
  · cases e
end
end Go.AM

namespace Go.AM
section
variable {P : Program} {T : Tab} {B : Nat} {ρ : Ren} {h : Heap} {nx : Nm} {w : World}

theorem idx_next : Extern.allNextRows.lookup idxName = none := by kernel_rfl
theorem idx_next0 : Extern.allNextRows.lookup "" = none := by kernel_rfl
theorem idx_gen : Extern.allGenericRows.lookup idxName = none := by kernel_rfl
theorem idx_typed : Extern.allTypedRows.lookup idxName = none := by kernel_rfl
theorem idx_row : Extern.allRows.lookup idxName = some Extern.BytealgIndexByte.indexByte := by kernel_rfl

theorem idx_find (s : ByteArray) (b : UInt8) : ∀ (l : List UInt8) (i : Nat), s.data.toList.drop i = l →
    idxOf b.toNat (l.map UInt8.toNat) i = (match (List.range' i l.length).find? (fun k => s[k]! == b) with | some k => (k : Int) | none => -1)
  | [], i, h => by simp [idxOf]
  | x :: l, i, h => by
    have hlt : i < s.data.toList.length := by
      rcases Nat.lt_or_ge i s.data.toList.length with h' | h'
      · exact h'
      · rw [List.drop_eq_nil_iff.2 h'] at h; cases h
    have hx : s[i]! = x := by
      have h1 : s.data.toList[i]? = some x := by
        have : (s.data.toList.drop i)[0]? = some x := by rw [h]; rfl
        simpa using this
      have h2 : s[i]? = some x := by rw [bytes_get]; simpa using h1
      rw [getElem!_def, h2]
    have htl : s.data.toList.drop (i + 1) = l := by
      rw [← List.drop_drop, h]; simp
    simp only [List.map_cons, idxOf, List.length_cons, List.range'_succ, List.find?_cons, hx]
    cases hb : Nat.beq x.toNat b.toNat
    · have : (x == b) = false := by
        have := Nat.ne_of_beq_eq_false hb
        simp [← UInt8.toNat_inj]; exact this
      rw [this]
      simp only
      exact idx_find s b l (i + 1) htl
    · have : (x == b) = true := by
        have := Nat.eq_of_beq_eq_true hb
        simp [← UInt8.toNat_inj]; exact this
      rw [this]
      rfl
theorem sem_indexByte {a b v : AV} {c d : Value} (e : indexByteA a b = some v) (ra : VR ρ a c) (rb : VR ρ b d) : Gives P ρ w v (Extern.BytealgIndexByte.indexByte #[c, d]) := by
  unfold indexByteA at e
  split at e
  case h_2 => cases e
  simp only [Option.map_eq_some_iff] at e
  obtain ⟨n, hn, rfl⟩ := e
  obtain ⟨rfl, hle⟩ := byte_rel hn rb
  cases ra
  rename_i s
  have hu : n.toUInt8.toNat = n := by simp [UInt8.toNat_ofNat']; omega
  have hf := idx_find s n.toUInt8 s.data.toList 0 (by simp)
  rw [hu] at hf
  have hsz : s.data.toList.length = s.size := by simp
  rw [hsz, ← List.range_eq_range'] at hf
  refine .of (c := Go.goInt (idxOf n (s.data.toList.map UInt8.toNat) 0)) ?_ (.int _ _)
  rw [run_indexByte_string]
  simp only [Go.goInt, firstIdx, Int.toNat_natCast, hf]
  cases (List.range s.size).find? (fun k => s[k]! == n.toUInt8) <;> rfl
theorem opNil_sem {x v : AV} {c : Value} {o : Oper} {xo : Operand} {ev : Operand → Value} (ho : o.op = .nilCheck xo) (hc : ev xo = c) (e : opNil x = some v) (r : VR ρ x c) :
    ∃ c', (execOp ev o).run P w = .ok (.value c') w ∧ VR ρ v c' := by
  unfold opNil at e
  split at e
  · cases e
    have r' := r
    cases r
    exact ⟨_, by simp [execOp, ho, hc], r'⟩
  · split at e
    · cases e
      have r' := r
      cases r
      exact ⟨_, by simp [execOp, ho, hc], r'⟩
    · cases e
  · cases e

/-! ### what an operation comes to -/
/-- .. a value -/
def ValR (P : Program) (B : Nat) (ρ : Ren) (nx : Nm) (w : World) (v : AV) (h' : Heap) (nx' : Nm) (s : Sem Next) : Prop :=
  ∃ c w' ρ', (s.run P w = .ok (.value c) w' ∨ (s.run P w = .ok .skip w' ∧ c = Go.undef)) ∧ ρ.le ρ' ∧ (∀ n, n.val < nx.val → ρ' n = ρ n) ∧ nx.val ≤ nx'.val ∧ VR ρ' v c ∧ HR B ρ' h' nx' w' ∧ Turn B w w'
def OpR (P : Program) (B : Nat) (ρ : Ren) (nx : Nm) (w : World) (r : ARes) (s : Sem Next) : Prop :=
  match r with
  | .val v h' nx' => ValR P B ρ nx w v h' nx' s
  | .enter f args => ∃ cargs : List Value, s.run P w = .ok (.enter f cargs.toArray) w ∧ VsR ρ args cargs
  | .round n args => ∃ b c, ∃ cargs : List Value, ρ n = some (b, c) ∧ s.run P w = (Instr.yield b cargs.toArray).run P w ∧ VsR ρ args cargs
  | .defer d => ∃ cd, s.run P w = .ok (.defer cd) w ∧ DR ρ d cd
  | .recover => s.run P w = .ok .recover w
  | .panic v => ∃ c, s.run P w = .halt (.panic c) w ∧ VR ρ v c
  | .alts l => ∃ v h', .val v h' nx ∈ l ∧ ValR P B ρ nx w v h' nx s

theorem Comes.valR {v : AV} {h' : Heap} {nx' : Nm} {s : Sem Value} (c : Comes P B ρ nx h' nx' w v s) {s' : Sem Next} (hs : s' = (do pure (.value (← s)))) : ValR P B ρ nx w v h' nx' s' := by
  obtain ⟨c, w', ρ', h1, h2⟩ := c
  subst hs
  exact ⟨c, w', ρ', .inl (by simp [h1]), h2⟩
theorem Gives.valR {v : AV} {s : Sem Value} (g : Gives P ρ w v s) (H : HR B ρ h nx w) {s' : Sem Next} (hs : s' = (do pure (.value (← s)))) : ValR P B ρ nx w v h nx s' := (g.turns H).comes.valR hs
theorem TurnsU.valR {h' : Heap} {s : Sem Unit} (t : TurnsU P B ρ h' nx w s) {s' : Sem Next} (hs : s' = (do s; pure .skip)) : ValR P B ρ nx w undef h' nx s' := by
  obtain ⟨w', h1, h2, h3⟩ := t
  subst hs
  exact ⟨Go.undef, w', ρ, .inr ⟨by simp [h1], rfl⟩, ρ.le_refl, fun _ _ => rfl, Nat.le_refl _, undef_rel, h2, h3⟩
theorem res_some {h' : Heap} {x : Option AV} {r : ARes} (e : res h' nx x = some r) : ∃ v, x = some v ∧ r = .val v h' nx := by
  simp only [res, Option.map_eq_some_iff] at e
  obtain ⟨v, h1, h2⟩ := e
  exact ⟨v, h1, h2.symm⟩
theorem bind_some {α β : Type} {x : Option α} {f : α → Option β} {b : β} (e : x.bind f = some b) : ∃ a, x = some a ∧ f a = some b := by
  cases x with
  | none => cases e
  | some a => exact ⟨a, rfl, e⟩
end
end Go.AM

namespace Go.AM
section
variable {P : Program} {T : Tab} {B : Nat} {ρ : Ren} {h : Heap} {nx : Nm} {w : World}

theorem two_some {β : Type} {args : List AV} {k : AV → AV → Option β} {b : β} (e : two args k = some b) : ∃ x y, args = [x, y] ∧ k x y = some b := by
  unfold two at e
  split at e
  · exact ⟨_, _, rfl, e⟩
  · cases e
theorem one_some {β : Type} {args : List AV} {k : AV → Option β} {b : β} (e : one args k = some b) : ∃ x, args = [x] ∧ k x = some b := by
  unfold one at e
  split at e
  · exact ⟨_, rfl, e⟩
  · cases e
theorem call_idx (K : TabOk P T) {f : FuncId} {a : AFn} (hf : T.fn f = some a) (hb : a.body = none) (hi : a.isIdx = true) (args : Array Value) :
    (callFunc f args).run P w = ((Extern.BytealgIndexByte.indexByte args).run P w).andThen fun v w' => .ok (.value v) w' := by
  have h1 := K.fn f a hf
  unfold fnOf at h1
  split at h1
  · rename_i fn hfn
    split at h1
    · cases h1
    · rename_i hn
      cases h1
      simp only [Bool.and_eq_true, beq_iff_eq] at hi
      refine run_callFunc_indexByte hfn (by simpa using hn) (by simp at hb; simp [hb]) ?_ ?_ args w
      · simp only [Extern.findNext, hi.1, hi.2, idx_next, idx_next0]; rfl
      · simp only [Extern.find, hi.1, idx_gen, idx_typed, idx_row]; rfl
  · cases h1
theorem call_body (K : TabOk P T) {f : FuncId} {a : AFn} {c : Code} (hf : T.fn f = some a) (hb : a.body = some c) (args : Array Value) :
    (callFunc f args).run P w = .ok (.enter f args) w := by
  have h1 := K.fn f a hf
  unfold fnOf at h1
  split at h1
  · rename_i fn hfn
    split at h1
    · cases h1
    · rename_i hn
      cases h1
      simp only at hb
      have : fn.name ≠ "runtime.NumGoroutine" := by simpa using hn
      simp [callFunc, hfn, this, hb]
  · cases h1
theorem sem_callFn (K : TabOk P T) (H : HR B ρ h nx w) {f : FuncId} {args : List AV} {cargs : List Value} {r : ARes} {s : Sem Next} (e : callFn T h nx f args = some r) (ra : VsR ρ args cargs) (hs : s.run P w = (callFunc f cargs.toArray).run P w) :
    OpR P B ρ nx w r s := by
  unfold callFn at e
  split at e
  case h_2 => cases e
  rename_i fn hfn
  split at e
  · rename_i c hb
    cases e
    exact ⟨cargs, by rw [hs, call_body K hfn hb], ra⟩
  · rename_i hb
    split at e
    · rename_i hi
      simp only [Option.map_eq_some_iff] at e
      obtain ⟨v, hv, rfl⟩ := e
      obtain ⟨x, y, rfl, hxy⟩ := two_some hv
      cases ra with
      | cons r1 r2 => cases r2 with
        | cons r2 r3 =>
          cases r3
          obtain ⟨c', w', h1, h2, h3⟩ := sem_indexByte (P := P) (w := w) hxy r1 r2
          refine ⟨c', w', ρ, .inl ?_, ρ.le_refl, fun _ _ => rfl, Nat.le_refl _, h3, H.alike h2, h2.turn B⟩
          rw [hs, call_idx K hfn hb hi]
          show ((Extern.BytealgIndexByte.indexByte #[_, _]).run P w).andThen _ = _
          rw [h1]; rfl
    · cases e
theorem sem_builtin (K : TabOk P T) (H : HR B ρ h nx w) (hB : B ≤ w.heap.size) {b : Builtin} {us : Array TypeId} {args : List AV} {cargs : List Value} {r : ARes} (ty : TypeId) (cs : Array Bool)
    (e : builtinA T h nx b us.toList args = some r) (ra : VsR ρ args cargs) : OpR P B ρ nx w r (builtin b us ty cs cargs.toArray) := by
  have h0 : ∀ {t : TypeId} {l : List TypeId}, us.toList = t :: l → us[0]? = some t ∧ getN l 0 = us[1]? := by
    intro t l h
    rw [getN_eq, ← Array.getElem?_toList, ← Array.getElem?_toList, h]
    simp
  unfold builtinA at e
  split at e
  · split at e
    · rename_i t l hl
      obtain ⟨h1, h2⟩ := h0 hl
      obtain ⟨x, y, rfl, hxy⟩ := two_some e
      rw [h2] at hxy
      cases ra with
      | cons r1 r2 => cases r2 with
        | cons r2 r3 =>
          cases r3
          have hv : ∃ v h' nx', r = .val v h' nx' := by
            unfold appendA at hxy
            split at hxy <;> try (cases hxy; done)
            split at hxy <;> try (cases hxy; done)
            split at hxy <;> try (cases hxy; done)
            split at hxy <;> try (cases hxy; done)
            unfold appTo at hxy
            split at hxy
            · unfold appNil at hxy; split at hxy <;> cases hxy <;> exact ⟨_, _, _, rfl⟩
            · unfold appSlc at hxy
              split at hxy <;> simp only [Option.map_eq_some_iff] at hxy <;> obtain ⟨_, _, rfl⟩ := hxy <;> exact ⟨_, _, _, rfl⟩
            · split at hxy <;> try (cases hxy; done)
              split at hxy
              · cases hxy; exact ⟨_, _, _, rfl⟩
              · unfold appSlu at hxy
                split at hxy <;> try (cases hxy; done)
                split at hxy <;> try (cases hxy; done)
                simp only [Option.map_eq_some_iff] at hxy
                obtain ⟨_, _, rfl⟩ := hxy
                exact ⟨_, _, _, rfl⟩
            · cases hxy
          obtain ⟨v, h', nx', rfl⟩ := hv
          exact (sem_append K H hB h1 ty hxy r1 r2).valR rfl
    · cases e
  · split at e
    · rename_i t l hl
      obtain ⟨h1, h2⟩ := h0 hl
      obtain ⟨x, y, rfl, hxy⟩ := two_some e
      cases ra with
      | cons r1 r2 => cases r2 with
        | cons r2 r3 =>
          cases r3
          have hv : ∃ v h' nx', r = .val v h' nx' := by
            unfold copyA at hxy
            split at hxy <;> try (cases hxy; done)
            obtain ⟨_, _, hxy⟩ := bind_some hxy
            unfold copyTo at hxy
            split at hxy <;> first | (cases hxy; exact ⟨_, _, _, rfl⟩) | (simp only [Option.map_eq_some_iff] at hxy; obtain ⟨_, _, rfl⟩ := hxy; exact ⟨_, _, _, rfl⟩) | cases hxy
          obtain ⟨v, h', nx', rfl⟩ := hv
          obtain ⟨rfl, ht⟩ := sem_copy K H h1 ty hxy r1 r2
          exact ht.comes.valR rfl
    · cases e
  · split at e
    · rename_i t l hl
      obtain ⟨h1, h2⟩ := h0 hl
      obtain ⟨v, hv, rfl⟩ := res_some e
      obtain ⟨x, rfl, hx⟩ := one_some hv
      cases ra with
      | cons r1 r2 =>
        cases r2
        exact (sem_len (P := P) K H us ty h1 hx r1).valR H rfl
    · cases e
  · split at e
    · rename_i t l hl
      obtain ⟨h1, h2⟩ := h0 hl
      obtain ⟨x, y, rfl, hxy⟩ := two_some e
      cases ra with
      | cons r1 r2 => cases r2 with
        | cons r2 r3 =>
          cases r3
          have hv : ∃ v h' nx', r = .val v h' nx' := by
            unfold opDelete at hxy
            split at hxy <;> try (cases hxy; done)
            split at hxy <;> try (cases hxy; done)
            unfold mapDel at hxy
            split at hxy <;> try (cases hxy; done)
            split at hxy <;> cases hxy <;> exact ⟨_, _, _, rfl⟩
          obtain ⟨v, h', nx', rfl⟩ := hv
          obtain ⟨_, rfl, ht⟩ := sem_delete K H us ty h1 hxy r1 r2
          exact ht.comes.valR rfl
    · cases e
  · split at e
    · rename_i t l hl
      obtain ⟨h1, h2⟩ := h0 hl
      obtain ⟨x, rfl, hx⟩ := one_some e
      cases ra with
      | cons r1 r2 =>
        cases r2
        have hv : ∃ v h' nx', r = .val v h' nx' := by
          unfold opClear at hx
          split at hx <;> try (cases hx; done)
          split at hx <;> first | (cases hx; exact ⟨_, _, _, rfl⟩) | (simp only [Option.map_eq_some_iff] at hx; obtain ⟨_, _, rfl⟩ := hx; exact ⟨_, _, _, rfl⟩) | cases hx
        obtain ⟨v, h', nx', rfl⟩ := hv
        obtain ⟨rfl, rfl, w', q1, q2, q3⟩ := sem_clear K H us ty h1 hx r1
        exact (Turns.comes ⟨Go.undef, w', q1, undef_rel, q2, q3⟩).valR rfl
    · cases e
  · obtain ⟨v, hv, rfl⟩ := res_some e
    obtain ⟨x, y, rfl, hxy⟩ := two_some hv
    cases ra with
    | cons r1 r2 => cases r2 with
      | cons r2 r3 =>
        cases r3
        exact (sem_minmax (P := P) (w := w) (mx := true) hxy r1 r2 us ty).valR H rfl
  · obtain ⟨v, hv, rfl⟩ := res_some e
    obtain ⟨x, y, rfl, hxy⟩ := two_some hv
    cases ra with
    | cons r1 r2 => cases r2 with
      | cons r2 r3 =>
        cases r3
        exact (sem_minmax (P := P) (w := w) (mx := false) hxy r1 r2 us ty).valR H rfl
  · cases e
    show (builtin .recover us ty cs cargs.toArray).run P w = _
    simp [builtin]
  · cases e
theorem sem_call (K : TabOk P T) {env : Env} {ev : Operand → Value} (E : EvR ρ env ev) (H : HR B ρ h nx w) (hB : B ≤ w.heap.size) {c : Call} {r : ARes} (ty : TypeId) (e : opCall T env h nx c = some r) :
    OpR P B ρ nx w r (do let d ← resolve ev c ty; invoke d.target d.args) := by
  unfold opCall at e
  split at e
  · cases e
  rename_i args hargs
  have ra := E.list hargs
  have hmap : c.args.map ev = (c.args.toList.map ev).toArray := by apply Array.toList_inj.1; simp
  generalize hca : c.args.toList.map ev = cargs at ra hmap
  split at e
  · rename_i f hf
    obtain ⟨fv, h1, h2⟩ := bind_some e
    have rf := E _ _ h1
    unfold callA at h2
    split at h2
    · rename_i fn first captured
      split at h2
      · rename_i g
        generalize hev : ev f = fval at rf
        cases rf with
        | func _ r1 r2 =>
          rename_i gs ds
          refine sem_callFn K H h2 ((r1.append ra).append r2) ?_
          simp only [resolve, hf, hev, Deferred.ofValue, Sem.run_bind, Sem.run_pure, Result.andThen_ok, invoke, hmap]
          simp
      · cases h2
    · rename_i n
      cases h2
      generalize hev : ev f = fval at rf
      cases rf with
      | yld hn =>
        refine ⟨_, _, cargs, hn, ?_, ra⟩
        simp only [resolve, hf, hev, Deferred.ofValue, Sem.run_bind, Sem.run_pure, Result.andThen_ok, invoke, hmap]
        simp
    · cases h2
  · rename_i b hb
    have := sem_builtin (P := P) K H hB ty (c.args.map fun | .const _ => true | _ => false) e ra
    have hrun : ∀ s : Sem Next, s.run P w = (builtin b c.argTypes ty (c.args.map fun | .const _ => true | _ => false) cargs.toArray).run P w → OpR P B ρ nx w r s := by
      intro s hs
      cases r <;> simp only [OpR, ValR] at this ⊢ <;> rw [hs] <;> exact this
    refine hrun _ ?_
    simp only [resolve, hb, Sem.run_bind, Sem.run_pure, Result.andThen_ok, invoke, hmap]
    rfl
  · cases e
end
end Go.AM

namespace Go.AM
section
variable {P : Program} {T : Tab} {B : Nat} {ρ : Ren} {h : Heap} {nx : Nm} {w : World}

theorem exec_sound (K : TabOk P T) {env : Env} {ev : Operand → Value} (E : EvR ρ env ev) (H : HR B ρ h nx w) (hB : B ≤ w.heap.size) {o : Oper} {r : ARes} (e : execA T env h nx o.op = some r) :
    OpR P B ρ nx w r (execOp ev o) := by
  unfold execA at e
  split at e
  case h_1 x ho => -- move
    obtain ⟨v, hv, rfl⟩ := res_some e
    refine (sem_move (P := P) (w := w) (E _ _ hv)).valR H ?_
    simp [execOp, ho]
  case h_2 x ho => -- assign
    obtain ⟨v, hv, rfl⟩ := res_some e
    refine (sem_move (P := P) (w := w) (E _ _ hv)).valR H ?_
    simp [execOp, ho]
  case h_3 c a b ho => -- pick
    obtain ⟨v, hv, rfl⟩ := res_some e
    refine (sem_pick (P := P) (w := w) hv (fun u hu => E _ _ hu) (fun u hu => E _ _ hu) (fun u hu => E _ _ hu)).valR H ?_
    simp only [execOp, ho]
    simp
  case h_4 t ho => -- alloc
    obtain ⟨mk, a, hf, hm⟩ := make_alloc (P := P) (ρ := ρ) (w := w) K e
    have hf' := hf h nx; simp only at hf'; rw [e] at hf'; cases hf'
    exact (hm.comes H hB).valR (by simp only [execOp, ho])
  case h_5 t x ho => -- box
    obtain ⟨a, h1, h2⟩ := bind_some e
    obtain ⟨mk, b, hf, hm⟩ := make_box (P := P) (ρ := ρ) (w := w) h2 (E _ _ h1)
    have hf' := hf h nx; simp only at hf'; rw [h2] at hf'; cases hf'
    exact (hm.comes H hB).valR (by simp only [execOp, ho])
  case h_6 t parts ho => -- build
    obtain ⟨v, hv, rfl⟩ := res_some e
    obtain ⟨ps, h1, h2⟩ := bind_some hv
    have hp := parts_rel E h1
    exact (sem_build (P := P) (w := w) K h2 (qs := parts.map fun (i, x) => (i, ev x)) (by simpa using hp)).valR H (by simp only [execOp, ho])
  case h_7 t len parts ho => -- buildSlice
    obtain ⟨ps, h1, h2⟩ := bind_some e
    have hp := parts_rel E h1
    obtain ⟨mk, b, hf, hm⟩ := make_buildSlice (P := P) (ρ := ρ) (w := w) K h2 (qs := parts.map fun (i, x) => (i, ev x)) (by simpa using hp)
    have hf' := hf h nx; simp only at hf'; rw [h2] at hf'; cases hf'
    exact (hm.comes H hB).valR (by simp only [execOp, ho])
  case h_8 t a ho => -- load
    obtain ⟨v, hv, rfl⟩ := res_some e
    obtain ⟨x, h1, h2⟩ := bind_some hv
    exact (sem_load (P := P) K H h2 (E _ _ h1)).valR H (by simp only [execOp, ho])
  case h_9 t a x ho => -- store
    obtain ⟨av, h1, e⟩ := bind_some e
    obtain ⟨xv, h2, e⟩ := bind_some e
    have hv : ∃ v h' nx', r = .val v h' nx' := by
      unfold opStore at e
      split at e <;> try (cases e; done)
      split at e <;> try (cases e; done)
      split at e <;> try (cases e; done)
      split at e <;> try (cases e; done)
      simp only [Option.map_eq_some_iff] at e
      obtain ⟨_, _, rfl⟩ := e
      exact ⟨_, _, _, rfl⟩
    obtain ⟨v, h', nx', rfl⟩ := hv
    obtain ⟨rfl, rfl, hw⟩ := sem_store (P := P) K H e (E _ _ h1) (E _ _ h2)
    exact TurnsU.valR hw (by simp only [execOp, ho])
  case h_10 x ho => -- nilCheck
    obtain ⟨v, hv, rfl⟩ := res_some e
    obtain ⟨a, h1, h2⟩ := bind_some hv
    obtain ⟨c', q1, q2⟩ := opNil_sem (P := P) (w := w) ho rfl h2 (E _ _ h1)
    exact ⟨c', w, ρ, .inl q1, ρ.le_refl, fun _ _ => rfl, Nat.le_refl _, q2, H, .refl _ _⟩
  case h_11 op t x y yt ho => -- binOp
    obtain ⟨v, hv, rfl⟩ := res_some e
    obtain ⟨a, h1, hv⟩ := bind_some hv
    obtain ⟨b, h2, h3⟩ := bind_some hv
    exact (sem_bin (P := P) (w := w) K x y h3 (E _ _ h1) (E _ _ h2)).valR H (by simp only [execOp, ho])
  case h_12 op t x ho => -- unOp
    obtain ⟨v, hv, rfl⟩ := res_some e
    obtain ⟨a, h1, h2⟩ := bind_some hv
    exact (sem_un (P := P) (w := w) h2 (E _ _ h1)).valR H (by simp only [execOp, ho])
  case h_13 src dst x ho => -- convert
    obtain ⟨a, h1, h2⟩ := bind_some e
    rcases sem_convert (P := P) K H h2 (E _ _ h1) with ⟨v, rfl, hk, _⟩ | ⟨_, mk, b, hf, hm⟩
    · exact (hk.turns H).comes.valR (by simp only [execOp, ho])
    · have hf' := hf h nx; simp only at hf'; rw [h2] at hf'; cases hf'
      exact (hm.comes H hB).valR (by simp only [execOp, ho])
  case h_14 arr x ho => -- sliceToArrayPointer
    obtain ⟨v, hv, rfl⟩ := res_some e
    obtain ⟨a, h1, h2⟩ := bind_some hv
    exact (sem_arr (P := P) (w := w) K h2 (E _ _ h1)).valR H (by simp only [execOp, ho])
  case h_15 t x ho => -- makeInterface
    obtain ⟨v, hv, rfl⟩ := res_some e
    obtain ⟨a, h1, h2⟩ := bind_some hv
    exact (sem_iface (P := P) (w := w) K h2 (E _ _ h1)).valR H (by simp only [execOp, ho])
  case h_16 fn first captured ho => -- makeFunc
    obtain ⟨v, hv, rfl⟩ := res_some e
    unfold opMakeFunc at hv
    split at hv
    · rename_i f
      obtain ⟨a, h1, hv⟩ := bind_some hv
      simp only [Option.map_eq_some_iff] at hv
      obtain ⟨b, h2, rfl⟩ := hv
      have r1 := E.list h1
      have r2 := E.list h2
      refine Gives.valR (s := Instr.makeFunc (.func f) (first.map ev) (captured.map ev)) (.of (c := .func (.func f) (first.map ev) (captured.map ev)) (by simp [Instr.makeFunc]) ?_) H (by simp only [execOp, ho])
      have m : ∀ l : Array Operand, l.map ev = (l.toList.map ev).toArray := fun l => by apply Array.toList_inj.1; simp
      rw [m, m]
      exact VR.func (ρ := ρ) (.func f) r1 r2
    · cases hv
  case h_17 t rr ho => -- makeMap
    split at e
    · cases e
      exact ((make_map (P := P) (ρ := ρ) (w := w) t).comes H hB).valR (by simp only [execOp, ho]; rfl)
    · cases e
  case h_18 t l c ho => -- makeSlice
    obtain ⟨ln, h1, e⟩ := bind_some e
    obtain ⟨cn, h2, e⟩ := bind_some e
    obtain ⟨la, h1, h1'⟩ := bind_some h1
    obtain ⟨ca, h2, h2'⟩ := bind_some h2
    obtain ⟨kl, hl⟩ := nat_rel h1' (E _ _ h1)
    obtain ⟨kc, hc⟩ := nat_rel h2' (E _ _ h2)
    obtain ⟨mk, b, hf, hm⟩ := make_makeSlice (P := P) (ρ := ρ) (w := w) K e kl kc
    have hf' := hf h nx; simp only at hf'; rw [e] at hf'; cases hf'
    exact (hm.comes H hB).valR (by simp only [execOp, ho, hl, hc])
  case h_19 t x lo hi mx ho => -- slice
    obtain ⟨v, hv, rfl⟩ := res_some e
    obtain ⟨a, h1, hv⟩ := bind_some hv
    obtain ⟨lo', h2, hv⟩ := bind_some hv
    obtain ⟨hi', h3, hv⟩ := bind_some hv
    obtain ⟨mx', h4, hv⟩ := bind_some hv
    exact (sem_slice (P := P) (w := w) K hv (E _ _ h1) (optNat_rel E h2) (optNat_rel E h3) (optNat_rel E h4)).valR H (by simp only [execOp, ho])
  case h_20 s x f ho => -- fieldAddr
    obtain ⟨v, hv, rfl⟩ := res_some e
    obtain ⟨a, h1, h2⟩ := bind_some hv
    exact (sem_fieldAddr (P := P) (w := w) K h2 (E _ _ h1)).valR H (by simp only [execOp, ho])
  case h_21 t x f ho => -- field
    obtain ⟨v, hv, rfl⟩ := res_some e
    obtain ⟨a, h1, h2⟩ := bind_some hv
    exact (sem_field (P := P) (w := w) K h2 (E _ _ h1)).valR H (by simp only [execOp, ho])
  case h_22 t x ix ho => -- indexAddr
    obtain ⟨v, hv, rfl⟩ := res_some e
    obtain ⟨a, h1, hv⟩ := bind_some hv
    obtain ⟨n, h2, h3⟩ := bind_some hv
    obtain ⟨ia, h2, h2'⟩ := bind_some h2
    obtain ⟨k, hk⟩ := nat_rel h2' (E _ _ h2)
    exact (sem_indexAddr (P := P) (w := w) K h3 (E _ _ h1) hk).valR H (by simp only [execOp, ho])
  case h_23 t x ix ho => -- index
    obtain ⟨v, hv, rfl⟩ := res_some e
    obtain ⟨a, h1, hv⟩ := bind_some hv
    obtain ⟨n, h2, h3⟩ := bind_some hv
    obtain ⟨ia, h2, h2'⟩ := bind_some h2
    obtain ⟨k, hk⟩ := nat_rel h2' (E _ _ h2)
    exact (sem_index (P := P) (w := w) K h3 (E _ _ h1) hk).valR H (by simp only [execOp, ho])
  case h_24 t x ix ok ho => -- lookup
    obtain ⟨v, hv, rfl⟩ := res_some e
    obtain ⟨a, h1, hv⟩ := bind_some hv
    obtain ⟨k, h2, h3⟩ := bind_some hv
    exact (sem_lookup (P := P) K H h3 (E _ _ h1) (E _ _ h2)).valR H (by simp only [execOp, ho])
  case h_25 t m k x ho => -- mapUpdate
    obtain ⟨a, h1, e⟩ := bind_some e
    obtain ⟨b, h2, e⟩ := bind_some e
    obtain ⟨c, h3, e⟩ := bind_some e
    have hv : ∃ v h' nx', r = .val v h' nx' := by
      unfold opMapPut at e
      split at e <;> try (cases e; done)
      split at e <;> try (cases e; done)
      unfold mapPut at e
      split at e <;> try (cases e; done)
      split at e <;> cases e <;> exact ⟨_, _, _, rfl⟩
    obtain ⟨v, h', nx', rfl⟩ := hv
    obtain ⟨rfl, rfl, ht⟩ := sem_mapPut (P := P) K H e (E _ _ h1) (E _ _ h2) (E _ _ h3)
    exact TurnsU.valR ht (by simp only [execOp, ho])
  case h_26 t m k x ho => -- insert
    obtain ⟨a, h1, e⟩ := bind_some e
    obtain ⟨b, h2, e⟩ := bind_some e
    obtain ⟨c, h3, e⟩ := bind_some e
    have hv : ∃ v h' nx', r = .val v h' nx' := by
      unfold opMapPut at e
      split at e <;> try (cases e; done)
      split at e <;> try (cases e; done)
      unfold mapPut at e
      split at e <;> try (cases e; done)
      split at e <;> cases e <;> exact ⟨_, _, _, rfl⟩
    obtain ⟨v, h', nx', rfl⟩ := hv
    obtain ⟨rfl, rfl, ht⟩ := sem_mapPut (P := P) K H e (E _ _ h1) (E _ _ h2) (E _ _ h3)
    exact TurnsU.valR ht (by simp only [execOp, ho])
  case h_27 t m k ho => -- mapEntry
    obtain ⟨a, h1, e⟩ := bind_some e
    obtain ⟨b, h2, e⟩ := bind_some e
    have hv : ∃ v h' nx', r = .val v h' nx' := by
      unfold opMapEntry at e
      split at e <;> try (cases e; done)
      split at e <;> try (cases e; done)
      split at e <;> try (cases e; done)
      split at e <;> try (cases e; done)
      split at e <;> try (cases e; done)
      unfold mapEnt at e
      split at e <;> try (cases e; done)
      split at e <;> cases e <;> exact ⟨_, _, _, rfl⟩
    obtain ⟨v, h', nx', rfl⟩ := hv
    obtain ⟨rfl, ht⟩ := sem_mapEnt (P := P) K H e (E _ _ h1) (E _ _ h2)
    exact ht.comes.valR (by simp only [execOp, ho])
  case h_28 t m s x ho => -- entryStore
    obtain ⟨a, h1, e⟩ := bind_some e
    obtain ⟨n, h2, e⟩ := bind_some e
    obtain ⟨c, h3, e⟩ := bind_some e
    obtain ⟨sa, h2, h2'⟩ := bind_some h2
    obtain ⟨k, hk⟩ := nat_rel h2' (E _ _ h2)
    have hv : ∃ v h' nx', r = .val v h' nx' := by
      unfold opEntryStore at e
      split at e <;> try (cases e; done)
      split at e <;> try (cases e; done)
      split at e <;> cases e <;> exact ⟨_, _, _, rfl⟩
    obtain ⟨v, h', nx', rfl⟩ := hv
    obtain ⟨rfl, rfl, ht⟩ := sem_entryStore (P := P) (t := t) (k := k) H e (E _ _ h1) (E _ _ h3)
    exact TurnsU.valR ht (by simp only [execOp, ho, hk])
  case h_29 t x ho => -- range
    obtain ⟨a, h1, e⟩ := bind_some e
    have hv : ∃ v h' nx', r = .val v h' nx' := by
      unfold opRange at e
      split at e <;> try (cases e; done)
      split at e <;> try (cases e; done)
      split at e <;> try (cases e; done)
      · cases e; exact ⟨_, _, _, rfl⟩
      · split at e <;> try (cases e; done)
        cases e; exact ⟨_, _, _, rfl⟩
    obtain ⟨v, h', nx', rfl⟩ := hv
    exact (sem_range (P := P) K H hB e (E _ _ h1)).valR (by simp only [execOp, ho])
  case h_30 it str ho => -- next
    split at e
    · obtain ⟨a, h1, e⟩ := bind_some e
      obtain ⟨v, h', hr, ht⟩ := sem_next (P := P) H o.type e (E _ _ h1)
      have hv : ValR P B ρ nx w v h' nx (execOp ev o) := ht.comes.valR (by simp only [execOp, ho])
      rcases hr with rfl | ⟨l, rfl, hm⟩
      · exact hv
      · exact ⟨v, h', hm, hv⟩
    · cases e
  case h_31 it ho => -- entry
    obtain ⟨v, hv, rfl⟩ := res_some e
    obtain ⟨a, h1, h2⟩ := bind_some hv
    exact (sem_entry (P := P) H h2 (E _ _ h1)).valR H (by simp only [execOp, ho])
  case h_32 x xt as ok ho => -- typeAssert
    split at e
    · obtain ⟨v, hv, rfl⟩ := res_some e
      obtain ⟨a, h1, h2⟩ := bind_some hv
      exact (sem_assert (P := P) (w := w) (xt := xt) K h2 (E _ _ h1)).valR H (by simp only [execOp, ho])
    · cases e
  case h_33 t i ho => -- extract
    obtain ⟨v, hv, rfl⟩ := res_some e
    obtain ⟨a, h1, h2⟩ := bind_some hv
    exact (sem_extract (P := P) (w := w) h2 (E _ _ h1)).valR H (by simp only [execOp, ho])
  case h_34 c ho => -- call
    have := sem_call (P := P) K E H hB o.type e
    have hs : execOp ev o = (do let d ← resolve ev c o.type; invoke d.target d.args) := by simp only [execOp, ho]
    rw [hs]; exact this
  case h_35 c ho => -- defer
    unfold opDefer at e
    split at e
    · cases e
    rename_i args hargs
    have ra := E.list hargs
    have hmap : c.args.map ev = (c.args.toList.map ev).toArray := by apply Array.toList_inj.1; simp
    split at e
    · rename_i f hf
      obtain ⟨fv, h1, h2⟩ := bind_some e
      have rf := E _ _ h1
      unfold deferA at h2
      split at h2
      · split at h2
        · rename_i g
          cases h2
          generalize hev : ev f = fval at rf
          cases rf with
          | func _ r1 r2 =>
            rename_i gs ds
            refine ⟨{ target := .fn (.func g) ds.toArray, args := (gs ++ c.args.toList.map ev).toArray }, ?_, .fn g r2 (r1.append ra)⟩
            simp only [execOp, ho, resolve, hf, hev, Deferred.ofValue, Sem.run_bind, Sem.run_pure, Result.andThen_ok, hmap]
            simp
        · cases h2
      · cases h2
    · cases e
  case h_36 x ho => -- panic
    obtain ⟨a, h1, h2⟩ := bind_some e
    unfold opPanic at h2
    split at h2
    · cases h2
      have rf := E _ _ h1
      generalize hev : ev x = xv at rf
      have rf' := rf
      cases rf with
      | iface t r =>
        refine ⟨_, ?_, rf'⟩
        simp [execOp, ho, hev, Instr.panic, goPanic, Sem.run]
    · cases h2
  case h_37 => cases e
end
end Go.AM

namespace Go.AM
section
variable {P : Program} {T : Tab} {B : Nat} {ρ : Ren} {h : Heap} {nx : Nm} {w : World}

theorem execA_call (env : Env) (h : Heap) (nx : Nm) (c : Call) : execA T env h nx (.call c) = opCall T env h nx c := rfl
theorem kd_pure {env : Env} {op : Op} {r : ARes} (k : kdOf T op = .pure) (e : execA T env h nx op = some r) : ∃ v, ∀ h' nx', execA T env h' nx' op = some (.val v h' nx') := by
  cases op
  case call c =>
    rw [execA_call] at e
    simp only [kdOf, kdC] at k
    split at k
    · rename_i b hb
      have key : ∀ (h : Heap) (nx : Nm), opCall T env h nx c = (match evls env c.args.toList with | none => none | some args => builtinA T h nx b c.argTypes.toList args) := by
        intro h nx; unfold opCall; cases evls env c.args.toList <;> simp [hb]
      rw [key] at e
      cases hargs : evls env c.args.toList with
      | none => rw [hargs] at e; cases e
      | some args =>
        rw [hargs] at e
        simp only at e
        cases b <;> simp [kdB] at k
        · obtain ⟨v, hv, rfl⟩ := res_some (show res h nx (two args (opMinMax true)) = some r from e)
          exact ⟨v, fun h' nx' => by rw [execA_call, key, hargs]; show res h' nx' (two args (opMinMax true)) = _; rw [hv]; rfl⟩
        · obtain ⟨v, hv, rfl⟩ := res_some (show res h nx (two args (opMinMax false)) = some r from e)
          exact ⟨v, fun h' nx' => by rw [execA_call, key, hargs]; show res h' nx' (two args (opMinMax false)) = _; rw [hv]; rfl⟩
    · cases k
  all_goals first
    | (simp [kdOf] at k; done)
    | (exfalso; simp only [kdOf, kdV] at k; split at k <;> first | (cases k; done) | (split at k <;> cases k; done))
    | (simp only [execA] at e
       obtain ⟨v, hv, rfl⟩ := res_some e
       exact ⟨v, fun h' nx' => by simp only [execA, hv, res, Option.map_some]⟩)
    | (simp only [execA] at e
       split at e
       · obtain ⟨v, hv, rfl⟩ := res_some e
         exact ⟨v, fun h' nx' => by simp only [execA, hv, res, Option.map_some]⟩
       · cases e)
    | (simp only [execA] at e; cases e; done)
theorem kd_load {env : Env} {op : Op} {r : ARes} (k : kdOf T op = .load) (e : execA T env h nx op = some r) : ∃ v, r = .val v h nx := by
  cases op
  case call c =>
    rw [execA_call] at e
    simp only [kdOf, kdC] at k
    split at k
    · rename_i b hb
      unfold opCall at e
      split at e
      · cases e
      rename_i args hargs
      simp only [hb] at e
      cases b <;> simp [kdB] at k
      simp only [builtinA] at e
      split at e
      · obtain ⟨v, hv, rfl⟩ := res_some e
        exact ⟨v, rfl⟩
      · cases e
    · cases k
  case convert src dst x =>
    simp only [execA] at e
    obtain ⟨a, h1, e⟩ := bind_some e
    simp only [kdOf, kdV] at k
    unfold opConvert at e
    split at e
    · cases e
    split at e
    case h_2 => cases e
    rename_i di hdi
    split at e
    · split at e <;> cases e; exact ⟨_, rfl⟩
    · split at e <;> cases e; exact ⟨_, rfl⟩
    · obtain ⟨v, hv, rfl⟩ := res_some e
      exact ⟨v, rfl⟩
    · rename_i hd
      rw [hdi] at k
      simp only [hd] at k
      cases k
    · cases e
  all_goals first
    | (simp [kdOf] at k; done)
    | (simp only [execA] at e
       obtain ⟨v, hv, rfl⟩ := res_some e
       exact ⟨v, rfl⟩)

/-- a value with its own block's name -/
def Named (mk : Nm → AV) : Prop := ∀ n, nameOf (mk n) = some n
theorem kd_all {env : Env} {op : Op} {r : ARes} (k : kdOf T op = .all) (e : execA T env h nx op = some r) :
    (∃ v, ∀ h' nx', execA T env h' nx' op = some (.val v h' nx')) ∨ ∃ mk a, Named mk ∧ Form (fun h nx => execA T env h nx op) mk a := by
  cases op
  case call c =>
    exfalso
    simp only [kdOf, kdC] at k
    split at k
    · rename_i b _; cases b <;> simp [kdB] at k
    · cases k
  case convert src dst x =>
    simp only [execA] at e
    obtain ⟨a, h1, e⟩ := bind_some e
    have hx : ∀ h nx, execA T env h nx (.convert src dst x) = opConvert T h nx src dst a := by intro h nx; simp only [execA, h1, Option.bind_some]
    simp only [kdOf, kdV] at k
    unfold opConvert at e
    split at e
    · cases e
    rename_i si hsi
    split at e
    case h_2 => cases e
    rename_i di hdi
    rw [hdi] at k
    split at e
    · rename_i hd; simp only [hd] at k; cases k
    · rename_i hd; simp only [hd] at k; cases k
    · rename_i hd; simp only [hd] at k; cases k
    · rename_i el hd
      unfold convSlice at e
      split at e
      · cases e
      rename_i hel
      split at e
      · rename_i hst
        split at e
        · rename_i s
          right
          refine ⟨fun n => .slu n 0 (lenL s) 1, .cells (s.map fun b => .int .u8 (Int.ofNat b)) el, fun n => rfl, fun h nx => ?_⟩
          simp only [hx, opConvert, hsi, hdi, hd, convSlice, hel, hst, newCells]
        · cases e
      · rename_i hst
        obtain ⟨v, hv, rfl⟩ := res_some e
        left
        refine ⟨v, fun h nx => ?_⟩
        simp only [hx, opConvert, hsi, hdi, hd, convSlice, hel, hst, hv, res, Option.map_some]
    · cases e
  case alloc t =>
    simp only [execA, opAlloc, Option.map_eq_some_iff] at e
    obtain ⟨ti, ht, _⟩ := e
    exact .inr ⟨fun n => .ptr n 0, .cells ti.zero t, fun n => rfl, fun h nx => by simp only [execA, opAlloc, ht, Option.map_some, newCells]⟩
  case box t x =>
    simp only [execA] at e
    obtain ⟨a, h1, e⟩ := bind_some e
    simp only [opBox, Option.map_eq_some_iff] at e
    obtain ⟨cs, hc, _⟩ := e
    exact .inr ⟨fun n => .ptr n 0, .cells cs t, fun n => rfl, fun h nx => by simp only [execA, h1, Option.bind_some, opBox, hc, Option.map_some, newCells]⟩
  case buildSlice t len parts =>
    simp only [execA] at e
    obtain ⟨ps, h1, e⟩ := bind_some e
    unfold opBuildSlice at e
    split at e
    case h_2 => cases e
    rename_i el te hel
    split at e
    · rename_i hle
      simp only [Option.map_eq_some_iff] at e
      obtain ⟨out, hf, _⟩ := e
      exact .inr ⟨fun n => .slc n 0 len len, .cells out el, fun n => rfl, fun h nx => by simp only [execA, h1, Option.bind_some, opBuildSlice, hel, hle, hf, Option.map_some, newCells]⟩
    · cases e
  case makeSlice t l c =>
    simp only [execA] at e
    obtain ⟨ln, h1, e⟩ := bind_some e
    obtain ⟨cn, h2, e⟩ := bind_some e
    unfold opMakeSlice at e
    split at e
    case h_2 => cases e
    rename_i el te hel
    split at e
    case h_2 => cases e
    rename_i hc
    exact .inr ⟨fun n => .slc n 0 ln cn, blockOf te.zero cn el, fun n => rfl, fun h nx => by simp only [execA, h1, h2, Option.bind_some, opMakeSlice, hel, hc]⟩
  case makeMap t rr =>
    simp only [execA] at e
    split at e
    · exact .inr ⟨fun n => .map n, .map [] 0, fun n => rfl, fun h nx => by simp only [execA]⟩
    · cases e
  all_goals (simp [kdOf] at k; done)

/-! ### the environment is asked at the operands only -/
theorem evls_congr {env env' : Env} : ∀ {l : List Operand}, (∀ x ∈ l, evl env x = evl env' x) → evls env l = evls env' l
  | [], _ => rfl
  | o :: l, h => by
    show (match evl env o with | some v => (evls env l).map (v :: ·) | none => none) = (match evl env' o with | some v => (evls env' l).map (v :: ·) | none => none)
    rw [h o (by simp), evls_congr (l := l) (fun x hx => h x (by simp [hx]))]
theorem evParts_congr {env env' : Env} : ∀ {l : List (Nat × Operand)}, (∀ x ∈ l, evl env x.2 = evl env' x.2) → evParts env l = evParts env' l
  | [], _ => rfl
  | o :: l, h => by
    show (match evl env o.2 with | some v => (evParts env l).map ((o.1, v) :: ·) | none => none) = (match evl env' o.2 with | some v => (evParts env' l).map ((o.1, v) :: ·) | none => none)
    rw [h o (by simp), evParts_congr (l := l) (fun x hx => h x (by simp [hx]))]
theorem optNat_congr {env env' : Env} {o : Option Operand} (h : ∀ x, o = some x → evl env x = evl env' x) : optNat env o = optNat env' o := by
  cases o with
  | none => rfl
  | some x => simp only [optNat, h x rfl]
theorem opCall_congr {env env' : Env} {h : Heap} {nx : Nm} {c : Call} (hc : ∀ x ∈ c.operands.toList, evl env x = evl env' x) : opCall T env h nx c = opCall T env' h nx c := by
  unfold opCall
  have hargs : evls env c.args.toList = evls env' c.args.toList := evls_congr fun x hx => hc x (by
    unfold Call.operands; cases hcal : c.callee <;> simp_all)
  rw [hargs]
  cases evls env' c.args.toList with
  | none => rfl
  | some args =>
    simp only
    cases hcal : c.callee with
    | value f =>
      simp only
      rw [hc f (by unfold Call.operands; simp [hcal])]
    | builtin b => rfl
    | invoke a b => rfl
theorem execA_congr {env env' : Env} {h : Heap} {nx : Nm} {op : Op} (hc : ∀ x ∈ op.operands.toList, evl env x = evl env' x) : execA T env h nx op = execA T env' h nx op := by
  cases op
  case call c => exact opCall_congr hc
  case defer c =>
    simp only [Op.operands] at hc
    simp only [execA]
    unfold opDefer
    have hargs : evls env c.args.toList = evls env' c.args.toList := evls_congr fun x hx => hc x (by
      unfold Call.operands; cases hcal : c.callee <;> simp_all)
    rw [hargs]
    cases evls env' c.args.toList with
    | none => rfl
    | some args =>
      simp only
      cases hcal : c.callee with
      | value f =>
        simp only
        rw [hc f (by unfold Call.operands; simp [hcal])]
      | builtin b => rfl
      | invoke a b => rfl
  case build t ps =>
    simp only [execA]
    rw [evParts_congr (env := env) (env' := env') fun x hx => hc x.2 (by simp only [Op.operands]; exact List.mem_map.2 ⟨x, hx, rfl⟩)]
  case buildSlice t n ps =>
    simp only [execA]
    rw [evParts_congr (env := env) (env' := env') fun x hx => hc x.2 (by simp only [Op.operands]; exact List.mem_map.2 ⟨x, hx, rfl⟩)]
  case makeFunc fn first captured =>
    simp only [execA]
    unfold opMakeFunc
    rw [evls_congr (env := env) (env' := env') (l := first.toList) fun x hx => hc x (by simp only [Op.operands, Array.toList_append, List.mem_append]; exact .inl hx),
      evls_congr (env := env) (env' := env') (l := captured.toList) fun x hx => hc x (by simp only [Op.operands, Array.toList_append, List.mem_append]; exact .inr hx)]
  case makeMap t r => simp only [execA]
  case slice t x lo hi mx =>
    simp only [execA]
    rw [hc x (by simp [Op.operands]), optNat_congr (o := lo) fun x hx => hc x (by simp [Op.operands, hx]), optNat_congr (o := hi) fun x hx => hc x (by simp [Op.operands, hx]), optNat_congr (o := mx) fun x hx => hc x (by simp [Op.operands, hx])]
  all_goals first
    | (simp only [execA]; done)
    | (simp [Op.operands] at hc; simp only [execA, hc])
    | rfl
end
end Go.AM

namespace Go.AM

theorem bit_test (m i : Nat) : bit m i = m.testBit i := by
  unfold bit Nat.testBit
  have h : Nat.land (Nat.shiftRight m i) 1 = 1 &&& (m >>> i) := by show (m >>> i) &&& 1 = _; rw [Nat.and_comm]
  rw [h, Nat.one_and_eq_mod_two]
  have := Nat.mod_two_eq_zero_or_one (m >>> i)
  rcases this with h | h <;> rw [h] <;> rfl

/-- a binding edge from operation i to operation k -/
def Edg (ops : Array Oper) (i k : Nat) : Prop := ∃ o, ops[i]? = some o ∧ ∃ e ∈ o.after, Region.binds .any e = true ∧ e.on = k
inductive Way (ops : Array Oper) : Nat → Nat → Prop where
  | one {i k : Nat} : Edg ops i k → Way ops i k
  | cons {i j k : Nat} : Edg ops i j → Way ops j k → Way ops i k

theorem beforeOf_bit (ops : Array Oper) (acc : List Nat) (hacc : ∀ i b k, acc[i]? = some b → b.testBit k = true → Way ops i k) (i : Nat) (hi : ∀ e, e ∈ (ops[i]?.map (·.after.toList)).getD [] → True) :
    ∀ (es : List Edge) (s : Nat), (∀ e ∈ es, Region.binds .any e = true → Edg ops i e.on) → (∀ k, s.testBit k = true → Way ops i k) → ∀ k, (beforeOf acc es s).testBit k = true → Way ops i k
  | [], s, _, hs, k, h => hs k h
  | e :: es, s, he, hs, k, h => by
    simp only [beforeOf] at h
    refine beforeOf_bit ops acc hacc i hi es _ (fun e' h' => he e' (by simp [h'])) ?_ k h
    intro k hk
    split at hk
    · rename_i hb
      have hE := he e (by simp) hb
      have hor : ∀ a b : Nat, Nat.lor a b = a ||| b := fun _ _ => rfl
      have hpow : Nat.pow 2 e.on = 2 ^ e.on := rfl
      rw [hor, hor, hpow] at hk
      simp only [Nat.testBit_or, Bool.or_eq_true, Nat.testBit_two_pow, decide_eq_true_eq] at hk
      rcases hk with (hk | hk) | hk
      · exact hs k hk
      · subst hk; exact .one hE
      · rw [getN_eq] at hk
        cases ha : acc[e.on]? with
        | none => rw [ha] at hk; simp at hk
        | some b => rw [ha] at hk; exact .cons hE (hacc _ _ _ ha hk)
    · exact hs k hk
theorem befores_bit (ops : Array Oper) : ∀ (l : List Oper) (acc : List Nat), (∀ i b k, acc[i]? = some b → b.testBit k = true → Way ops i k) → ops.toList.drop acc.length = l →
    ∀ i b k, (befores l acc)[i]? = some b → b.testBit k = true → Way ops i k
  | [], acc, hacc, _, i, b, k, h1, h2 => hacc i b k h1 h2
  | o :: l, acc, hacc, hd, i, b, k, h1, h2 => by
    simp only [befores] at h1
    have hlt : acc.length < ops.toList.length := by
      rcases Nat.lt_or_ge acc.length ops.toList.length with h' | h'
      · exact h'
      · rw [List.drop_eq_nil_iff.2 h'] at hd; cases hd
    have ho : ops[acc.length]? = some o := by
      have : (ops.toList.drop acc.length)[0]? = some o := by rw [hd]; rfl
      simpa using this
    refine befores_bit ops l (acc ++ [beforeOf acc o.after.toList 0]) ?_ ?_ i b k h1 h2
    · intro i b k ha hb
      by_cases hi : i < acc.length
      · rw [List.getElem?_append_left hi] at ha; exact hacc i b k ha hb
      · rw [List.getElem?_append_right (by omega)] at ha
        have h0 : i - acc.length = 0 := by
          rcases Nat.eq_zero_or_pos (i - acc.length) with h | h
          · exact h
          · rw [List.getElem?_eq_none (by simp; omega)] at ha; cases ha
        rw [h0] at ha
        simp only [List.getElem?_cons_zero, Option.some.injEq] at ha
        subst ha
        have hi' : i = acc.length := by omega
        subst hi'
        exact beforeOf_bit ops acc hacc _ (fun _ _ => trivial) o.after.toList 0 (fun e he hbb => ⟨o, ho, e, by simpa using he, hbb, rfl⟩) (fun k hk => by simp at hk) k hb
    · rw [List.length_append, List.length_singleton, ← List.drop_drop, hd]; rfl

/-- each one stands behind what it waits for -/
def Lin (ops : Array Oper) (l : List Nat) : Prop := ∀ pre i post, l = pre ++ i :: post → ∀ k, Edg ops i k → k ∈ pre
theorem Lin.way {ops : Array Oper} {l : List Nat} (L : Lin ops l) {i k : Nat} (w : Way ops i k) : ∀ pre post, l = pre ++ i :: post → k ∈ pre := by
  induction w with
  | one e => intro pre post h; exact L pre _ post h _ e
  | cons e _ ih =>
    rename_i i j k _
    intro pre post h
    have hj := L pre i post h j e
    obtain ⟨p1, p2, hp⟩ := List.append_of_mem hj
    have := ih p1 (p2 ++ i :: post) (by rw [h, hp]; simp)
    rw [hp]; simp [this]

theorem nodup_le : ∀ (n : Nat) (l : List Nat), l.Nodup → (∀ i ∈ l, i < n) → l.length ≤ n
  | 0, l, _, hb => by
    cases l with
    | nil => simp
    | cons x l => exact absurd (hb x (by simp)) (by omega)
  | n + 1, l, hn, hb => by
    by_cases hm : n ∈ l
    · have h1 := nodup_le n (l.erase n) (hn.erase n) (fun i hi => by
        have hi' := (hn.mem_erase_iff).1 hi
        have := hb i hi'.2
        have := hi'.1
        omega)
      rw [List.length_erase_of_mem hm] at h1
      omega
    · have h1 := nodup_le n l hn (fun i hi => by
        have := hb i hi
        have : i ≠ n := fun e => hm (e ▸ hi)
        omega)
      omega
theorem lin_go (ops : Array Oper) (hlt : ∀ i k, Edg ops i k → k < i) : ∀ (fuel t : Nat) (listed : Array Bool) (pre : List Nat), listed.size = ops.size →
    (∀ i, listed.getD i false = true ↔ i ∈ pre) → pre.Nodup → (∀ i ∈ pre, i < ops.size) → ops.size ≤ fuel + pre.length → Lin ops pre →
    ∃ l, Region.linearise.go .any ops fuel t listed [] = l ∧ (pre ++ l).Nodup ∧ (∀ i, i ∈ pre ++ l ↔ i < ops.size) ∧ Lin ops (pre ++ l) := by
  intro fuel
  have full : ∀ pre : List Nat, pre.Nodup → (∀ i ∈ pre, i < ops.size) → ops.size ≤ pre.length → ∀ i, i < ops.size → i ∈ pre := by
    intro pre hn hb hl i hi
    apply Classical.byContradiction
    intro hni
    have := nodup_le ops.size (i :: pre) (by simp [hn, hni]) (by
      intro j hj
      rcases List.mem_cons.1 hj with rfl | hj
      · exact hi
      · exact hb j hj)
    simp at this
    omega
  induction fuel with
  | zero =>
    intro t listed pre hs hl hn hb hf L
    refine ⟨[], by simp [Region.linearise.go], by simpa using hn, fun i => ?_, by simpa using L⟩
    simp only [List.append_nil]
    exact ⟨hb i, full pre hn hb (by simpa using hf) i⟩
  | succ fuel ih =>
    intro t listed pre hs hl hn hb hf L
    have hgo : Region.linearise.go .any ops (fuel + 1) t listed [] = (match (Region.ready .any ops listed)[t % (Region.ready .any ops listed).length]? with
      | some i => Region.linearise.go .any ops fuel (t / (Region.ready .any ops listed).length) (listed.setIfInBounds i true) [i]
      | none => [].reverse) := by simp only [Region.linearise.go]; rfl
    rw [hgo]
    cases hi : (Region.ready .any ops listed)[t % (Region.ready .any ops listed).length]? with
    | none =>
      have hnil : Region.ready .any ops listed = [] := by
        cases hr : Region.ready .any ops listed with
        | nil => rfl
        | cons x xs =>
          rw [hr] at hi
          have hlt : t % (x :: xs).length < (x :: xs).length := Nat.mod_lt _ (by simp)
          rw [List.getElem?_eq_none_iff] at hi
          omega
      refine ⟨[], rfl, by simpa using hn, fun i => ?_, by simpa using L⟩
      simp only [List.append_nil]
      refine ⟨hb i, ?_⟩
      -- the least one that is missing would be ready
      intro hlt'
      have : ∀ m i, i < m → i < ops.size → i ∈ pre := by
        intro m
        induction m with
        | zero => intro i h; omega
        | succ m ihm =>
          intro i him his
          rcases Nat.lt_or_ge i m with h' | h'
          · exact ihm i h' his
          · have : i = m := by omega
            subst this
            have hnot : i ∉ Region.ready .any ops listed := by rw [hnil]; simp
            rw [mem_ready] at hnot
            apply Classical.byContradiction
            intro hmem
            apply hnot
            have hfalse : listed.getD i false = false := by
              cases hh : listed.getD i false
              · rfl
              · exact absurd ((hl i).1 hh) hmem
            have hget : listed.getD i true = false := by
              have : i < listed.size := by omega
              simp [this] at hfalse ⊢
              exact hfalse
            refine ⟨hget, ops[i], by simp [his], ?_⟩
            intro e he hbnd
            have hE : Edg ops i e.on := ⟨ops[i], by simp [his], e, he, hbnd, rfl⟩
            have h1 := hlt _ _ hE
            exact (hl e.on).2 (ihm e.on h1 (by omega))
      exact this (i + 1) i (by omega) hlt'
    | some i =>
      simp only
      rw [linearise_go_acc, List.reverse_singleton, List.singleton_append]
      have hmem := List.mem_of_getElem? hi
      rw [mem_ready] at hmem
      obtain ⟨h1, o, ho, hedge⟩ := hmem
      have hlt1 : i < ops.size := (Array.getElem?_eq_some_iff.1 ho).1
      have hni : i ∉ pre := by
        intro hp
        have := (hl i).2 hp
        have hsz : i < listed.size := by omega
        simp [hsz] at h1 this
        rw [h1] at this; cases this
      have hl' : ∀ j, (listed.setIfInBounds i true).getD j false = true ↔ j ∈ pre ++ [i] := by
        intro j
        by_cases hj : i = j
        · subst hj
          simp [show i < listed.size by omega]
        · rw [getD_set_ne false hj, hl j]
          simp [Ne.symm hj]
      have L' : Lin ops (pre ++ [i]) := by
        intro p x q hq k hE
        rcases List.append_eq_append_iff.1 hq with ⟨a, ha1, ha2⟩ | ⟨c, hc1, hc2⟩
        · -- pre ++ a = p, [i] = a ++ x :: q
          cases a with
          | nil =>
            simp only [List.nil_append, List.cons.injEq] at ha2
            obtain ⟨rfl, _⟩ := ha2
            simp only [List.append_nil] at ha1
            subst ha1
            obtain ⟨o', ho', e, he, hbnd, rfl⟩ := hE
            rw [ho] at ho'; cases ho'
            exact (hl e.on).1 (hedge e he hbnd)
          | cons y a =>
            simp at ha2
        · -- p ++ c = pre
          cases c with
          | nil =>
            simp only [List.nil_append, List.cons.injEq] at hc2
            obtain ⟨rfl, _⟩ := hc2
            simp only [List.append_nil] at hc1
            subst hc1
            obtain ⟨o', ho', e, he, hbnd, rfl⟩ := hE
            rw [ho] at ho'; cases ho'
            exact (hl e.on).1 (hedge e he hbnd)
          | cons y c =>
            simp only [List.cons_append, List.cons.injEq] at hc2
            obtain ⟨rfl, hc2⟩ := hc2
            exact L p x c hc1 k hE
      obtain ⟨l, g1, g2, g3, g4⟩ := ih (t / (Region.ready .any ops listed).length) (listed.setIfInBounds i true) (pre ++ [i]) (by simpa using hs) hl'
        (by rw [List.nodup_append]; exact ⟨hn, by simp, by intro a ha b hb; simp at hb; subst hb; intro h; subst h; exact hni ha⟩)
        (by intro j hj; rcases List.mem_append.1 hj with hj | hj; exact hb j hj; simp at hj; subst hj; exact hlt1) (by simp; omega) L'
      refine ⟨i :: l, by rw [g1], by simpa using g2, fun j => by have := g3 j; simpa using this, by simpa using g4⟩
theorem schedule_lin (ops : Array Oper) (hlt : ∀ i k, Edg ops i k → k < i) (t : Nat) :
    (Region.schedule true ops t).Nodup ∧ (∀ i, i ∈ Region.schedule true ops t ↔ i < ops.size) ∧ Lin ops (Region.schedule true ops t) := by
  obtain ⟨l, h1, h2, h3, h4⟩ := lin_go ops hlt ops.size t (Array.replicate ops.size false) [] (by simp) (by intro i; simp only [List.not_mem_nil, iff_false]; by_cases h : i < ops.size <;> simp [h]) (by simp) (by simp) (by simp) (by intro p i q h; cases p <;> cases h)
  have : Region.schedule true ops t = l := by
    simp only [Region.schedule, Bool.true_or, if_true, Region.linearise]
    exact h1
  rw [this]
  exact ⟨by simpa using h2, by simpa using h3, by simpa using h4⟩
end Go.AM

