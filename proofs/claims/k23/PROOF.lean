import PyProof.Rows.All
import Wide.All
import OpenK.AllK
import Wide.FinOn
import HandS.ForMost
import HandS.SetKeys
import HandS.DictComp
import KE.KDictDisplayH
import PyProof.DictMoreH
import PyProof.ListMulRoad
import PyProof.FactsAll.tuple_2
import HandS.TupMul
import HandS.Style
import PyProof.WalksMore
import PyProof.WalkInts
import PyProof.Draws
import PyProof.EnumMake
import PyProof.SumAny
import KE.KDictWalk
import HandS.Zip0
import HandS.DictTup
import KE.SortData
import HandS.Deep
import HandS.Codes
import HandS.IsInst
import PySem.Challenge.RW_stepdown_k23_whole_one_way_to_fill_the_c
import HandS.TupAny
import HandS.TupLen
import HandS.Rev
import HandS.Zip
set_option Elab.async false
set_option linter.all false
/-! The mathematics of the law: tiles of a tape machine, rows that stand on a floor. No program in sight. -/
namespace K23
structure T4 where
  e : Int
  n : Int
  w : Int
  s : Int
  deriving DecidableEq
/-! ### rows on a floor -/
def IsRow (L : T4 → Prop) (right : Int) : List Int → Int → List T4 → Prop
  | [], c, [] => c = right
  | s :: fs, c, t :: ts => L t ∧ t.s = s ∧ t.w = c ∧ IsRow L right fs t.e ts
  | _, _, _ => False
section
variable {L : T4 → Prop} {right : Int}
theorem IsRow.length : ∀ {f : List Int} {c : Int} {r : List T4}, IsRow L right f c r → r.length = f.length
  | [], _, [], _ => rfl
  | [], _, _ :: _, h => h.elim
  | _ :: _, _, [], h => h.elim
  | s :: fs, c, t :: ts, h => by
    have := IsRow.length (f := fs) h.2.2.2
    simp [this]
theorem isRow_nil {c : Int} {r : List T4} : IsRow L right [] c r ↔ (c = right ∧ r = []) := by
  cases r with
  | nil => exact ⟨fun h => ⟨h, rfl⟩, fun h => h.1⟩
  | cons t ts => exact ⟨fun h => h.elim, fun h => by cases h.2⟩
theorem isRow_cons {s : Int} {fs : List Int} {c : Int} {r : List T4} : IsRow L right (s :: fs) c r ↔ ∃ t ts, r = t :: ts ∧ L t ∧ t.s = s ∧ t.w = c ∧ IsRow L right fs t.e ts := by
  cases r with
  | nil => exact ⟨fun h => h.elim, fun ⟨t, ts, e, _⟩ => by cases e⟩
  | cons t ts =>
    constructor
    · intro h
      exact ⟨t, ts, rfl, h⟩
    · rintro ⟨t', ts', e, h⟩
      cases e
      exact h
end
/-- a row can be finished -/
def Fin (L : T4 → Prop) (right : Int) (f : List Int) (c : Int) : Prop := ∃ r, IsRow L right f c r
theorem fin_nil {L : T4 → Prop} {right c : Int} : Fin L right [] c ↔ c = right := by
  constructor
  · rintro ⟨r, h⟩
    exact (isRow_nil.mp h).1
  · intro h
    exact ⟨[], h⟩
theorem fin_cons {L : T4 → Prop} {right c s : Int} {fs : List Int} : Fin L right (s :: fs) c ↔ ∃ t, L t ∧ t.s = s ∧ t.w = c ∧ Fin L right fs t.e := by
  constructor
  · rintro ⟨r, h⟩
    obtain ⟨t, ts, _, h1, h2, h3, h4⟩ := isRow_cons.mp h
    exact ⟨t, h1, h2, h3, ts, h4⟩
  · rintro ⟨t, h1, h2, h3, ts, h4⟩
    exact ⟨t :: ts, isRow_cons.mpr ⟨t, ts, rfl, h1, h2, h3, h4⟩⟩
/-! ### the machine -/
structure Mach where
  m : Int
  st : Int
  R : Int → Int → Option (Int × Int × Int)
structure Mach.Ok (M : Mach) : Prop where
  m2 : 2 ≤ M.m
  m5 : M.m ≤ 5
  s1 : 1 ≤ M.st
  s4 : M.st ≤ 4
  row : ∀ q a w v q', 0 ≤ q → q < M.st → 0 ≤ a → a < M.m → M.R q a = some (w, v, q') → 0 ≤ w ∧ w < M.m ∧ (v = 1 ∨ v = -1) ∧ 0 ≤ q' ∧ q' < M.st
def Mach.let (M : Mach) (q a : Int) : Int := M.m * (q + 1) + a
inductive IsT (M : Mach) : T4 → Prop
  | blank (x : Int) : 0 ≤ x → x < M.m → IsT M ⟨0, x, 0, x⟩
  | inR (q x : Int) : 0 ≤ q → q < M.st → 0 ≤ x → x < M.m → IsT M ⟨0, M.let q x, 1 + 2 * q, x⟩
  | inL (q x : Int) : 0 ≤ q → q < M.st → 0 ≤ x → x < M.m → IsT M ⟨2 + 2 * q, M.let q x, 0, x⟩
  | outR (q x w q' : Int) : 0 ≤ q → q < M.st → 0 ≤ x → x < M.m → M.R q x = some (w, 1, q') → IsT M ⟨1 + 2 * q', w, 0, M.let q x⟩
  | outL (q x w q' : Int) : 0 ≤ q → q < M.st → 0 ≤ x → x < M.m → M.R q x = some (w, -1, q') → IsT M ⟨0, w, 2 + 2 * q', M.let q x⟩
def Plain (M : Mach) (l : List Int) : Prop := ∀ x ∈ l, 0 ≤ x ∧ x < M.m
section
variable {M : Mach}
theorem let_ge (ok : M.Ok) {q a : Int} (hq : 0 ≤ q) (ha : 0 ≤ a) : M.m ≤ M.let q a := by
  unfold Mach.let
  have h1 := ok.m2
  have h2 : M.m * 1 ≤ M.m * (q + 1) := Int.mul_le_mul_of_nonneg_left (by omega) (by omega)
  omega
theorem let_inj (ok : M.Ok) {q a q' a' : Int} (ha : 0 ≤ a) (ha2 : a < M.m) (hb : 0 ≤ a') (hb2 : a' < M.m) (h : M.let q a = M.let q' a') : q = q' ∧ a = a' := by
  unfold Mach.let at h
  have h1 := ok.m2
  have e1 : (M.m * (q + 1) + a) / M.m = q + 1 := by
    rw [Int.add_comm, Int.add_mul_ediv_left _ _ (by omega), Int.ediv_eq_zero_of_lt ha ha2]; omega
  have e2 : (M.m * (q' + 1) + a') / M.m = q' + 1 := by
    rw [Int.add_comm, Int.add_mul_ediv_left _ _ (by omega), Int.ediv_eq_zero_of_lt hb hb2]; omega
  rw [h] at e1
  have e3 : q = q' := by omega
  subst e3
  exact ⟨rfl, by omega⟩
theorem Plain.cons {x : Int} {l : List Int} : Plain M (x :: l) ↔ (0 ≤ x ∧ x < M.m) ∧ Plain M l := by
  unfold Plain
  simp only [List.mem_cons, forall_eq_or_imp]
theorem Plain.append {l l' : List Int} : Plain M (l ++ l') ↔ Plain M l ∧ Plain M l' := by
  unfold Plain
  simp only [List.mem_append]
  exact ⟨fun h => ⟨fun x hx => h x (.inl hx), fun x hx => h x (.inr hx)⟩, fun h x hx => hx.elim (h.1 x) (h.2 x)⟩
theorem Plain.reverse {l : List Int} : Plain M l.reverse ↔ Plain M l := by
  unfold Plain
  simp
theorem Plain.nil : Plain M [] := fun _ h => by cases h
def blank (x : Int) : T4 := ⟨0, x, 0, x⟩
/-- a plain place entered from the west by nothing: blank, or what calls a head from the east -/
theorem plain_tile (ok : M.Ok) {t : T4} (h : IsT M t) (hs : t.s < M.m) (hs0 : 0 ≤ t.s) :
    (t = blank t.s) ∨ (∃ q, 0 ≤ q ∧ q < M.st ∧ t = ⟨0, M.let q t.s, 1 + 2 * q, t.s⟩) ∨ (∃ q, 0 ≤ q ∧ q < M.st ∧ t = ⟨2 + 2 * q, M.let q t.s, 0, t.s⟩) := by
  cases h with
  | blank x h1 h2 => exact .inl rfl
  | inR q x h1 h2 h3 h4 => exact .inr (.inl ⟨q, h1, h2, rfl⟩)
  | inL q x h1 h2 h3 h4 => exact .inr (.inr ⟨q, h1, h2, rfl⟩)
  | outR q x w q' h1 h2 h3 h4 h5 =>
    have := let_ge ok (q := q) (a := x) h1 h3
    exact absurd hs (by show ¬ M.let q x < M.m; omega)
  | outL q x w q' h1 h2 h3 h4 h5 =>
    have := let_ge ok (q := q) (a := x) h1 h3
    exact absurd hs (by show ¬ M.let q x < M.m; omega)
theorem head_tile (ok : M.Ok) {t : T4} {q a : Int} (hq : 0 ≤ q) (ha : 0 ≤ a) (ha2 : a < M.m) (h : IsT M t) (hs : t.s = M.let q a) :
    (∃ w q', M.R q a = some (w, 1, q') ∧ t = ⟨1 + 2 * q', w, 0, M.let q a⟩) ∨ (∃ w q', M.R q a = some (w, -1, q') ∧ t = ⟨0, w, 2 + 2 * q', M.let q a⟩) := by
  have hl := let_ge ok hq ha
  cases h with
  | blank x h1 h2 => exact absurd hs (by show ¬ x = M.let q a; omega)
  | inR q x h1 h2 h3 h4 => exact absurd hs (by show ¬ x = M.let _ a; omega)
  | inL q x h1 h2 h3 h4 => exact absurd hs (by show ¬ x = M.let _ a; omega)
  | outR q2 x w q' h1 h2 h3 h4 h5 =>
    obtain ⟨rfl, rfl⟩ := let_inj ok h3 h4 ha ha2 hs
    exact .inl ⟨w, q', h5, rfl⟩
  | outL q2 x w q' h1 h2 h3 h4 h5 =>
    obtain ⟨rfl, rfl⟩ := let_inj ok h3 h4 ha ha2 hs
    exact .inr ⟨w, q', h5, rfl⟩
/-- a plain floor between nothing and nothing -/
theorem row_plain (ok : M.Ok) : ∀ {c : List Int}, Plain M c → ∀ {r : List T4}, IsRow (IsT M) 0 c 0 r ↔ r = c.map blank
  | [], _, r => by
    rw [isRow_nil]
    exact ⟨fun h => h.2, fun h => ⟨rfl, h⟩⟩
  | x :: c, hp, r => by
    obtain ⟨hx, hc⟩ := Plain.cons.mp hp
    constructor
    · intro h
      obtain ⟨t, ts, rfl, h1, h2, h3, h4⟩ := isRow_cons.mp h
      rcases plain_tile ok h1 (by omega) (by omega) with e | ⟨q, q0, q1, e⟩ | ⟨q, q0, q1, e⟩
      · rw [e, h2] at h4
        have := (row_plain ok hc).mp (show IsRow (IsT M) 0 c 0 ts from h4)
        rw [this, e, h2]
        rfl
      · rw [e] at h3
        exact absurd (show 1 + 2 * q = 0 from h3) (by omega)
      · rw [e] at h4
        cases c with
        | nil => exact absurd (show 2 + 2 * q = 0 from (isRow_nil.mp h4).1) (by omega)
        | cons y c' =>
          obtain ⟨hy, _⟩ := Plain.cons.mp hc
          obtain ⟨t2, ts2, _, k1, k2, k3, _⟩ := isRow_cons.mp h4
          have k3 : t2.w = 2 + 2 * q := k3
          rcases plain_tile ok k1 (by omega) (by omega) with e2 | ⟨q2, _, _, e2⟩ | ⟨q2, _, _, e2⟩
          · rw [e2] at k3
            exact absurd (show (0 : Int) = 2 + 2 * q from k3) (by omega)
          · rw [e2] at k3
            exact absurd (show 1 + 2 * q2 = 2 + 2 * q from k3) (by omega)
          · rw [e2] at k3
            exact absurd (show (0 : Int) = 2 + 2 * q from k3) (by omega)
    · rintro rfl
      exact isRow_cons.mpr ⟨blank x, c.map blank, rfl, IsT.blank x hx.1 hx.2, rfl, rfl, (row_plain ok hc).mpr rfl⟩
/-- nothing plain is entered by what calls a head -/
theorem row_no2 (ok : M.Ok) {q right x : Int} {c : List Int} (hq : 0 ≤ q) (hx : 0 ≤ x ∧ x < M.m) {r : List T4} : ¬ IsRow (IsT M) right (x :: c) (2 + 2 * q) r := fun h => by
  obtain ⟨t2, ts2, _, k1, k2, k3, _⟩ := isRow_cons.mp h
  rcases plain_tile ok k1 (by omega) (by omega) with e2 | ⟨q2, _, _, e2⟩ | ⟨q2, _, _, e2⟩
  · rw [e2] at k3
    exact absurd (show (0 : Int) = 2 + 2 * q from k3) (by omega)
  · rw [e2] at k3
    exact absurd (show 1 + 2 * q2 = 2 + 2 * q from k3) (by omega)
  · rw [e2] at k3
    exact absurd (show (0 : Int) = 2 + 2 * q from k3) (by omega)
/-- a head arrives from the west on a plain floor -/
theorem row_in (ok : M.Ok) {q x : Int} {c : List Int} (hq : 0 ≤ q) (hq2 : q < M.st) (hp : Plain M (x :: c)) {r : List T4} : IsRow (IsT M) 0 (x :: c) (1 + 2 * q) r ↔ r = ⟨0, M.let q x, 1 + 2 * q, x⟩ :: c.map blank := by
  obtain ⟨hx, hc⟩ := Plain.cons.mp hp
  constructor
  · intro h
    obtain ⟨t, ts, rfl, h1, h2, h3, h4⟩ := isRow_cons.mp h
    rcases plain_tile ok h1 (by omega) (by omega) with e | ⟨q2, q0, q1, e⟩ | ⟨q2, q0, q1, e⟩
    · rw [e] at h3
      exact absurd (show (0 : Int) = 1 + 2 * q from h3) (by omega)
    · rw [e] at h3 h4
      have e3 : q2 = q := by have : 1 + 2 * q2 = 1 + 2 * q := h3; omega
      subst e3
      have := (row_plain ok hc).mp (show IsRow (IsT M) 0 c 0 ts from h4)
      rw [this, e, h2]
    · rw [e] at h3
      exact absurd (show (0 : Int) = 1 + 2 * q from h3) (by omega)
  · rintro rfl
    exact isRow_cons.mpr ⟨_, c.map blank, rfl, IsT.inR q x hq hq2 hx.1 hx.2, rfl, rfl, (row_plain ok hc).mpr rfl⟩
/-- the floor ahead of the head's place -/
theorem row_before (ok : M.Ok) {q a : Int} {c : List Int} (hq : 0 ≤ q) (ha : 0 ≤ a) (ha2 : a < M.m) : ∀ {b : List Int}, Plain M b → ∀ {r : List T4}, IsRow (IsT M) 0 (b ++ M.let q a :: c) 0 r ↔
    ((∃ r1, IsRow (IsT M) 0 (M.let q a :: c) 0 r1 ∧ r = b.map blank ++ r1) ∨
      ∃ b' x q' r1, b = b' ++ [x] ∧ 0 ≤ q' ∧ q' < M.st ∧ IsRow (IsT M) 0 (M.let q a :: c) (2 + 2 * q') r1 ∧ r = b'.map blank ++ ⟨2 + 2 * q', M.let q' x, 0, x⟩ :: r1)
  | [], _, r => by
    constructor
    · intro h
      exact .inl ⟨r, h, rfl⟩
    · rintro (⟨r1, h, rfl⟩ | ⟨b', x, q', r1, e, _⟩)
      · exact h
      · exact absurd e (by simp)
  | x :: b, hp, r => by
    obtain ⟨hx, hb⟩ := Plain.cons.mp hp
    constructor
    · intro h
      obtain ⟨t, ts, rfl, h1, h2, h3, h4⟩ := isRow_cons.mp (show IsRow (IsT M) 0 (x :: (b ++ M.let q a :: c)) 0 r from h)
      rcases plain_tile ok h1 (by omega) (by omega) with e | ⟨q2, q0, q1, e⟩ | ⟨q2, q0, q1, e⟩
      · rw [e] at h4
        rcases (row_before ok hq ha ha2 hb).mp (show IsRow (IsT M) 0 _ 0 ts from h4) with ⟨r1, k1, k2⟩ | ⟨b', y, q', r1, k1, k2, k3, k4, k5⟩
        · refine .inl ⟨r1, k1, ?_⟩
          rw [e, h2, k2]
          rfl
        · refine .inr ⟨x :: b', y, q', r1, by rw [k1]; rfl, k2, k3, k4, ?_⟩
          rw [e, h2, k5]
          rfl
      · rw [e] at h3
        exact absurd (show 1 + 2 * q2 = 0 from h3) (by omega)
      · rw [e] at h4
        cases b with
        | nil =>
          refine .inr ⟨[], x, q2, ts, rfl, q0, q1, h4, ?_⟩
          rw [e, h2]
          rfl
        | cons y b2 =>
          exact absurd (show IsRow (IsT M) 0 (y :: (b2 ++ M.let q a :: c)) (2 + 2 * q2) ts from h4) (row_no2 ok q0 (Plain.cons.mp hb).1)
    · rintro (⟨r1, h, rfl⟩ | ⟨b', y, q', r1, e, k2, k3, k4, rfl⟩)
      · exact isRow_cons.mpr ⟨blank x, b.map blank ++ r1, rfl, IsT.blank x hx.1 hx.2, rfl, rfl, (row_before ok hq ha ha2 hb).mpr (.inl ⟨r1, h, rfl⟩)⟩
      · cases b' with
        | nil =>
          obtain ⟨rfl, rfl⟩ : x = y ∧ b = [] := by
            have e : x :: b = [y] := e
            simp at e
            exact e
          exact isRow_cons.mpr ⟨_, r1, rfl, IsT.inL q' x k2 k3 hx.1 hx.2, rfl, rfl, k4⟩
        | cons z b2 =>
          obtain ⟨rfl, rfl⟩ : x = z ∧ b = b2 ++ [y] := by
            have e : x :: b = z :: (b2 ++ [y]) := e
            simp at e
            exact e
          exact isRow_cons.mpr ⟨blank x, _, rfl, IsT.blank x hx.1 hx.2, rfl, rfl, (row_before ok hq ha ha2 hb).mpr (.inr ⟨b2, y, q', r1, rfl, k2, k3, k4, rfl⟩)⟩
end
/-! ### places: the head in a floor of a certain width. b and c: the marks to both sides, the nearest first -/
structure Pos where
  b : List Int
  q : Int
  a : Int
  c : List Int
def fl (M : Mach) (p : Pos) : List Int := p.b.reverse ++ M.let p.q p.a :: p.c
structure Pos.Ok (M : Mach) (p : Pos) : Prop where
  pb : Plain M p.b
  pc : Plain M p.c
  q0 : 0 ≤ p.q
  q1 : p.q < M.st
  a0 : 0 ≤ p.a
  a1 : p.a < M.m
def nx (M : Mach) (p : Pos) : Option Pos :=
  match M.R p.q p.a with
  | none => none
  | some (w, v, q') =>
    if v = 1 then (match p.c with | [] => none | x :: c' => some ⟨w :: p.b, q', x, c'⟩)
    else (match p.b with | [] => none | x :: b' => some ⟨b', q', x, w :: p.c⟩)
section
variable {M : Mach}
theorem nx_width {p p' : Pos} (h : nx M p = some p') : p'.b.length + p'.c.length = p.b.length + p.c.length := by
  unfold nx at h
  split at h
  · cases h
  · split at h
    · split at h
      · cases h
      · rename_i e
        cases h
        rw [e]
        simp
        omega
    · split at h
      · cases h
      · rename_i e
        cases h
        rw [e]
        simp
        omega
theorem fl_length {p : Pos} : (fl M p).length = p.b.length + 1 + p.c.length := by
  unfold fl
  simp
  omega
theorem det_none (ok : M.Ok) {p : Pos} (hp : p.Ok M) (h : nx M p = none) (r : List T4) : ¬ IsRow (IsT M) 0 (fl M p) 0 r := fun hr => by
  obtain ⟨b, q, a, c⟩ := p
  obtain ⟨pb, pc, q0, q1, a0, a1⟩ := hp
  have pbr : Plain M b.reverse := Plain.reverse.mpr pb
  rcases (row_before ok q0 a0 a1 pbr).mp hr with ⟨r1, k1, k2⟩ | ⟨b', x, q', r1, k1, k2, k3, k4, k5⟩
  · obtain ⟨t, ts, _, h1, h2, h3, h4⟩ := isRow_cons.mp k1
    rcases head_tile ok q0 a0 a1 h1 h2 with ⟨w, q', hR, e⟩ | ⟨w, q', hR, e⟩
    · have hR : M.R q a = some (w, 1, q') := hR
      have hro := ok.row q a w 1 q' q0 q1 a0 a1 hR
      unfold nx at h
      simp only [hR] at h
      cases c with
      | nil =>
        rw [e] at h4
        exact absurd (show 1 + 2 * q' = 0 from (isRow_nil.mp h4).1) (by omega)
      | cons x c' => simp at h
    · rw [e] at h3
      have hR : M.R q a = some (w, -1, q') := hR
      have hro := ok.row q a w (-1) q' q0 q1 a0 a1 hR
      exact absurd (show 2 + 2 * q' = 0 from h3) (by omega)
  · obtain ⟨t, ts, _, h1, h2, h3, h4⟩ := isRow_cons.mp k4
    rcases head_tile ok q0 a0 a1 h1 h2 with ⟨w, q2, hR, e⟩ | ⟨w, q2, hR, e⟩
    · rw [e] at h3
      exact absurd (show (0 : Int) = 2 + 2 * q' from h3) (by omega)
    · have hR : M.R q a = some (w, -1, q2) := hR
      unfold nx at h
      simp only [hR] at h
      have k1 : b.reverse = b' ++ [x] := k1
      have e2 : b = x :: b'.reverse := by
        rw [← List.reverse_reverse b, k1]
        simp
      rw [e2] at h
      simp at h
theorem det_some (ok : M.Ok) {p p' : Pos} (hp : p.Ok M) (h : nx M p = some p') : p'.Ok M ∧ ∃ r, (∀ r', IsRow (IsT M) 0 (fl M p) 0 r' ↔ r' = r) ∧ r.map T4.n = fl M p' := by
  obtain ⟨b, q, a, c⟩ := p
  obtain ⟨pb, pc, q0, q1, a0, a1⟩ := hp
  have pb : Plain M b := pb
  have pc : Plain M c := pc
  have q0 : 0 ≤ q := q0
  have q1 : q < M.st := q1
  have a0 : 0 ≤ a := a0
  have a1 : a < M.m := a1
  have pbr : Plain M b.reverse := Plain.reverse.mpr pb
  unfold nx at h
  cases hR : M.R q a with
  | none => simp [hR] at h
  | some z =>
    obtain ⟨w, v, q'⟩ := z
    obtain ⟨w0, w1, hv, r0, r1⟩ := ok.row q a w v q' q0 q1 a0 a1 hR
    simp only [hR] at h
    rcases hv with rfl | rfl
    · -- to the right
      cases c with
      | nil => simp at h
      | cons x c' =>
        simp at h
        subst h
        obtain ⟨hx, hc⟩ := Plain.cons.mp pc
        refine ⟨⟨Plain.cons.mpr ⟨⟨w0, w1⟩, pb⟩, hc, r0, r1, hx.1, hx.2⟩, b.reverse.map blank ++ ⟨1 + 2 * q', w, 0, M.let q a⟩ :: ⟨0, M.let q' x, 1 + 2 * q', x⟩ :: c'.map blank, fun r => ?_, ?_⟩
        · constructor
          · intro hr
            rcases (row_before ok q0 a0 a1 pbr).mp hr with ⟨s1, k1, k2⟩ | ⟨b', y, q2, s1, k1, k2, k3, k4, k5⟩
            · obtain ⟨t, ts, rfl, h1, h2, h3, h4⟩ := isRow_cons.mp k1
              rcases head_tile ok q0 a0 a1 h1 h2 with ⟨w2, q2, hR2, e⟩ | ⟨w2, q2, hR2, e⟩
              · rw [hR] at hR2
                cases hR2
                rw [e] at h4
                have := (row_in ok r0 r1 pc).mp (show IsRow (IsT M) 0 (x :: c') (1 + 2 * q') ts from h4)
                rw [k2, e, this]
              · rw [hR] at hR2
                exact absurd hR2 (by simp)
            · obtain ⟨t, ts, rfl, h1, h2, h3, h4⟩ := isRow_cons.mp k4
              rcases head_tile ok q0 a0 a1 h1 h2 with ⟨w2, q3, hR2, e⟩ | ⟨w2, q3, hR2, e⟩
              · rw [e] at h3
                exact absurd (show (0 : Int) = 2 + 2 * q2 from h3) (by omega)
              · rw [hR] at hR2
                exact absurd hR2 (by simp)
          · rintro rfl
            refine (row_before ok q0 a0 a1 pbr).mpr (.inl ⟨_, ?_, rfl⟩)
            exact isRow_cons.mpr ⟨_, _, rfl, IsT.outR q a w q' q0 q1 a0 a1 hR, rfl, rfl, (row_in ok r0 r1 pc).mpr rfl⟩
        · unfold fl
          have e1 : ∀ l : List Int, (l.map blank).map T4.n = l := fun l => by
            rw [List.map_map]
            exact List.map_id l
          rw [List.map_append, e1, List.map_cons, List.map_cons, e1]
          simp
    · -- to the left
      have n1 : ¬ ((-1 : Int) = 1) := by omega
      rw [if_neg n1] at h
      cases b with
      | nil => simp at h
      | cons x b' =>
        simp at h
        subst h
        obtain ⟨hx, hb⟩ := Plain.cons.mp pb
        have pbr' : Plain M b'.reverse := Plain.reverse.mpr hb
        refine ⟨⟨hb, Plain.cons.mpr ⟨⟨w0, w1⟩, pc⟩, r0, r1, hx.1, hx.2⟩, b'.reverse.map blank ++ ⟨2 + 2 * q', M.let q' x, 0, x⟩ :: ⟨0, w, 2 + 2 * q', M.let q a⟩ :: c.map blank, fun r => ?_, ?_⟩
        · constructor
          · intro hr
            rcases (row_before ok q0 a0 a1 pbr).mp hr with ⟨s1, k1, k2⟩ | ⟨b2, y, q2, s1, k1, k2, k3, k4, k5⟩
            · obtain ⟨t, ts, rfl, h1, h2, h3, h4⟩ := isRow_cons.mp k1
              rcases head_tile ok q0 a0 a1 h1 h2 with ⟨w2, q3, hR2, e⟩ | ⟨w2, q3, hR2, e⟩
              · rw [hR] at hR2
                exact absurd hR2 (by simp)
              · rw [hR] at hR2
                cases hR2
                rw [e] at h3
                exact absurd (show 2 + 2 * q' = 0 from h3) (by omega)
            · obtain ⟨t, ts, rfl, h1, h2, h3, h4⟩ := isRow_cons.mp k4
              rcases head_tile ok q0 a0 a1 h1 h2 with ⟨w2, q3, hR2, e⟩ | ⟨w2, q3, hR2, e⟩
              · rw [hR] at hR2
                exact absurd hR2 (by simp)
              · rw [hR] at hR2
                cases hR2
                rw [e] at h3 h4
                have e3 : q2 = q' := by have : 2 + 2 * q' = 2 + 2 * q2 := h3; omega
                subst e3
                have := (row_plain ok pc).mp (show IsRow (IsT M) 0 c 0 ts from h4)
                have k1 : b'.reverse ++ [x] = b2 ++ [y] := by simpa using k1
                obtain ⟨e4, e5⟩ := List.append_inj' k1 rfl
                cases e5
                rw [k5, e, this, e4]
          · rintro rfl
            refine (row_before ok q0 a0 a1 pbr).mpr (.inr ⟨b'.reverse, x, q', _, by simp, r0, r1, ?_, rfl⟩)
            exact isRow_cons.mpr ⟨_, _, rfl, IsT.outL q a w q' q0 q1 a0 a1 hR, rfl, rfl, (row_plain ok pc).mpr rfl⟩
        · unfold fl
          have e1 : ∀ l : List Int, (l.map blank).map T4.n = l := fun l => by
            rw [List.map_map]
            exact List.map_id l
          rw [List.map_append, e1, List.map_cons, List.map_cons, e1]
end
/-! ### the blanks at the end -/
def trim : List Int → List Int
  | [] => []
  | x :: xs => match trim xs with
    | [] => if x = 0 then [] else [x]
    | y :: ys => x :: y :: ys
def Trimmed (l : List Int) : Prop := trim l = l
theorem trim_cons (x : Int) (xs : List Int) : trim (x :: xs) = if trim xs = [] ∧ x = 0 then [] else x :: trim xs := by
  show (match trim xs with | [] => if x = 0 then [] else [x] | y :: ys => x :: y :: ys) = _
  cases trim xs with
  | nil => by_cases h : x = 0 <;> simp [h]
  | cons y ys => simp
theorem trim_idem : ∀ l : List Int, trim (trim l) = trim l
  | [] => rfl
  | x :: xs => by
    rw [trim_cons]
    by_cases h : trim xs = [] ∧ x = 0
    · rw [if_pos h]
      rfl
    · rw [if_neg h, trim_cons, trim_idem xs, if_neg h]
theorem trim_trimmed (l : List Int) : Trimmed (trim l) := trim_idem l
theorem trim_cons_trim (x : Int) (xs : List Int) : trim (x :: trim xs) = trim (x :: xs) := by rw [trim_cons, trim_cons, trim_idem]
theorem trim_tail (x : Int) (xs : List Int) : (trim (x :: xs)).tail = trim xs := by
  rw [trim_cons]
  by_cases h : trim xs = [] ∧ x = 0
  · rw [if_pos h, h.1]
    rfl
  · rw [if_neg h]
    rfl
theorem trim_head (x : Int) (xs : List Int) : (trim (x :: xs) ++ [0]).headD 0 = x := by
  rw [trim_cons]
  by_cases h : trim xs = [] ∧ x = 0
  · rw [if_pos h, h.2]
    rfl
  · rw [if_neg h]
    rfl
theorem trim_zeros : ∀ l : List Int, ∃ k, l = trim l ++ List.replicate k 0
  | [] => ⟨0, rfl⟩
  | x :: xs => by
    obtain ⟨k, e⟩ := trim_zeros xs
    rw [trim_cons]
    by_cases h : trim xs = [] ∧ x = 0
    · rw [if_pos h]
      refine ⟨k + 1, ?_⟩
      rw [h.1] at e
      rw [h.2, List.replicate_succ]
      exact congrArg _ e
    · rw [if_neg h]
      exact ⟨k, congrArg _ e⟩
theorem trim_len (l : List Int) : (trim l).length ≤ l.length := by
  obtain ⟨k, e⟩ := trim_zeros l
  have := congrArg List.length e
  simp at this
  omega
theorem trim_mem {l : List Int} {x : Int} (h : x ∈ trim l) : x ∈ l := by
  obtain ⟨k, e⟩ := trim_zeros l
  rw [e]
  exact List.mem_append_left _ h
theorem trim_last : ∀ {l : List Int}, Trimmed l → ∀ z, l.getLast? = some z → z ≠ 0
  | [], _, z, h => by simp at h
  | [x], ht, z, h => by
    simp at h
    subst h
    intro e
    unfold Trimmed at ht
    rw [trim_cons] at ht
    simp [trim, e] at ht
  | x :: y :: ys, ht, z, h => by
    rw [List.getLast?_cons_cons] at h
    refine trim_last (l := y :: ys) ?_ z h
    unfold Trimmed at ht ⊢
    rw [trim_cons] at ht
    by_cases k : trim (y :: ys) = [] ∧ x = 0
    · rw [if_pos k] at ht
      cases ht
    · rw [if_neg k] at ht
      exact (List.cons.inj ht).2
theorem trim_append_zeros : ∀ (l : List Int) (k : Nat), trim (l ++ List.replicate k 0) = trim l
  | [], 0 => rfl
  | [], k + 1 => by
    have := trim_append_zeros [] k
    rw [List.nil_append] at this ⊢
    rw [List.replicate_succ, trim_cons, this]
    rfl
  | x :: xs, k => by
    rw [List.cons_append, trim_cons, trim_append_zeros xs k, ← trim_cons]
theorem trimmed_of_last : ∀ {l : List Int}, (∀ z, l.getLast? = some z → z ≠ 0) → Trimmed l
  | [], _ => rfl
  | [x], h => by
    have := h x rfl
    unfold Trimmed
    rw [trim_cons]
    simp [trim, this]
  | x :: y :: ys, h => by
    have ih : Trimmed (y :: ys) := trimmed_of_last fun z hz => h z (by rw [List.getLast?_cons_cons]; exact hz)
    unfold Trimmed at ih ⊢
    rw [trim_cons, ih]
    simp
theorem Trimmed.tail {l : List Int} (h : Trimmed l) : Trimmed l.tail := by
  cases l with
  | nil => rfl
  | cons x xs =>
    unfold Trimmed at h ⊢
    have := congrArg List.tail h
    rw [trim_tail] at this
    exact this
theorem trim_uniq {x y : List Int} {k : Nat} (e : x = y ++ List.replicate k 0) (h : Trimmed y) : trim x = y := by
  rw [e, trim_append_zeros]
  exact h
theorem trim_take_step {l : List Int} {n : Nat} (h : l[n]? = some 0) : trim (l.take (n + 1)) = trim (l.take n) := by
  rw [List.take_add_one, h]
  exact trim_append_zeros (l.take n) 1
theorem trim_take_stop {l : List Int} {n : Nat} {z : Int} (h : l[n]? = some z) (hz : z ≠ 0) : trim (l.take (n + 1)) = l.take (n + 1) := by
  refine trimmed_of_last fun y hy => ?_
  rw [List.take_add_one, h] at hy
  simp at hy
  omega
theorem pad_take {b : List Int} {W n : Nat} (hn : n = b.length) (hW : n ≤ W) : (trim b ++ List.replicate W 0).take n = b := by
  obtain ⟨k, e⟩ := trim_zeros b
  have hl := congrArg List.length e
  rw [List.length_append, List.length_replicate] at hl
  have h2 : List.replicate W (0 : Int) = List.replicate k 0 ++ List.replicate (W - k) 0 := by
    rw [List.replicate_append_replicate]
    congr 1
    omega
  rw [h2, ← List.append_assoc, ← e, hn]
  exact List.take_left
/-! ### the ends -/
def strip (l : List Int) : List Int := trim (l.dropWhile (· == 0))
theorem dropWhile_zeros : ∀ (k : Nat) (l : List Int), (List.replicate k 0 ++ l).dropWhile (· == 0) = l.dropWhile (· == 0)
  | 0, l => rfl
  | k + 1, l => by
    rw [List.replicate_succ, List.cons_append, List.dropWhile_cons_of_pos (by rfl), dropWhile_zeros k l]
theorem strip_core {l r : List Int} {h : Int} {i j : Nat} (hl : Trimmed l) (hr : Trimmed r) (hh : h ≠ 0) : strip (List.replicate i 0 ++ (l.reverse ++ h :: r) ++ List.replicate j 0) = l.reverse ++ h :: r := by
  unfold strip
  rw [List.append_assoc, dropWhile_zeros]
  have e1 : (l.reverse ++ h :: r ++ List.replicate j 0).dropWhile (· == 0) = l.reverse ++ h :: r ++ List.replicate j 0 := by
    cases e : l.reverse with
    | nil =>
      show List.dropWhile _ (h :: (r ++ _)) = _
      rw [List.dropWhile_cons_of_neg (by simpa using hh)]
      rfl
    | cons y ys =>
      have hy : y ≠ 0 := trim_last hl y (by rw [List.getLast?_eq_head?_reverse, e]; rfl)
      show List.dropWhile _ (y :: (ys ++ h :: r ++ _)) = _
      rw [List.dropWhile_cons_of_neg (by simpa using hy)]
      rfl
  rw [e1, trim_append_zeros]
  refine trimmed_of_last fun z hz => ?_
  cases r with
  | nil =>
    simp at hz
    omega
  | cons y ys =>
    refine trim_last hr z ?_
    rw [List.getLast?_append] at hz
    rw [List.getLast?_cons_cons] at hz
    cases q : (y :: ys).getLast? with
    | none => simp at q
    | some v =>
      rw [q] at hz
      exact hz
/-! ### configurations -/
structure Cfg where
  q : Int
  l : List Int
  a : Int
  r : List Int
def cfg (p : Pos) : Cfg := ⟨p.q, trim p.b, p.a, trim p.c⟩
def cnx (M : Mach) (c : Cfg) : Option Cfg :=
  match M.R c.q c.a with
  | none => none
  | some (w, v, q') => if v = 1 then some ⟨q', trim (w :: c.l), (c.r ++ [0]).headD 0, c.r.tail⟩ else some ⟨q', c.l.tail, (c.l ++ [0]).headD 0, trim (w :: c.r)⟩
structure Cfg.Ok (M : Mach) (c : Cfg) : Prop where
  pl : Plain M c.l
  pr : Plain M c.r
  tl : Trimmed c.l
  tr : Trimmed c.r
  q0 : 0 ≤ c.q
  q1 : c.q < M.st
  a0 : 0 ≤ c.a
  a1 : c.a < M.m
theorem cfg_ok {M : Mach} {p : Pos} (h : p.Ok M) : (cfg p).Ok M :=
  ⟨fun x hx => h.pb x (trim_mem hx), fun x hx => h.pc x (trim_mem hx), trim_trimmed _, trim_trimmed _, h.q0, h.q1, h.a0, h.a1⟩
theorem cnx_ok {M : Mach} (ok : M.Ok) {c c' : Cfg} (h : c.Ok M) (e : cnx M c = some c') : c'.Ok M := by
  have hm := ok.m2
  have hd : ∀ l : List Int, Plain M l → 0 ≤ (l ++ [0]).headD 0 ∧ (l ++ [0]).headD 0 < M.m := fun l hl => by
    cases l with
    | nil => exact ⟨Int.le_refl _, by show (0 : Int) < M.m; omega⟩
    | cons x xs => exact (Plain.cons.mp hl).1
  have ht : ∀ l : List Int, Plain M l → Plain M l.tail := fun l hl x hx => hl x (List.mem_of_mem_tail hx)
  unfold cnx at e
  split at e
  · cases e
  · rename_i w v q' hR
    obtain ⟨w0, w1, hv, r0, r1⟩ := ok.row _ _ w v q' h.q0 h.q1 h.a0 h.a1 hR
    have hc : ∀ l : List Int, Plain M l → Plain M (trim (w :: l)) := fun l hl x hx => (Plain.cons.mpr ⟨⟨w0, w1⟩, hl⟩) x (trim_mem hx)
    split at e
    · cases e
      exact ⟨hc _ h.pl, ht _ h.pr, trim_trimmed _, h.tr.tail, r0, r1, (hd _ h.pr).1, (hd _ h.pr).2⟩
    · cases e
      exact ⟨ht _ h.pl, hc _ h.pr, h.tl.tail, trim_trimmed _, r0, r1, (hd _ h.pl).1, (hd _ h.pl).2⟩
/-- one step shown by one row -/
theorem cfg_nx {M : Mach} {p p' : Pos} (h : nx M p = some p') : cnx M (cfg p) = some (cfg p') := by
  obtain ⟨b, q, a, c⟩ := p
  unfold nx at h
  unfold cnx
  show (match M.R q a with | none => none | some (w, v, q') => _) = _
  cases hR : M.R q a with
  | none => simp [hR] at h
  | some z =>
    obtain ⟨w, v, q'⟩ := z
    simp only [hR] at h
    by_cases hv : v = 1
    · rw [if_pos hv] at h
      show (if v = 1 then _ else _) = _
      rw [if_pos hv]
      cases c with
      | nil => simp at h
      | cons x c' =>
        simp at h
        subst h
        show some (Cfg.mk q' (trim (w :: trim b)) ((trim (x :: c') ++ [0]).headD 0) (trim (x :: c')).tail) = some (cfg _)
        rw [trim_cons_trim, trim_head, trim_tail]
        rfl
    · rw [if_neg hv] at h
      show (if v = 1 then _ else _) = _
      rw [if_neg hv]
      cases b with
      | nil => simp at h
      | cons x b' =>
        simp at h
        subst h
        show some (Cfg.mk q' (trim (x :: b')).tail ((trim (x :: b') ++ [0]).headD 0) (trim (w :: trim c))) = some (cfg _)
        rw [trim_cons_trim, trim_head, trim_tail]
        rfl
/-- a step that no row shows leaves the floor -/
theorem cfg_out {M : Mach} (ok : M.Ok) {p : Pos} (hp : p.Ok M) {c' : Cfg} (h : nx M p = none) (e : cnx M (cfg p) = some c') :
    ∃ w v q', M.R p.q p.a = some (w, v, q') ∧ ((v = 1 ∧ p.c = []) ∨ (v = -1 ∧ p.b = [])) := by
  obtain ⟨b, q, a, c⟩ := p
  unfold cnx at e
  unfold nx at h
  have e : (match M.R q a with | none => none | some (w, v, q') => _) = some c' := e
  cases hR : M.R q a with
  | none =>
    rw [hR] at e
    cases e
  | some z =>
    obtain ⟨w, v, q'⟩ := z
    obtain ⟨_, _, hv, _⟩ := ok.row q a w v q' hp.q0 hp.q1 hp.a0 hp.a1 hR
    simp only [hR] at h
    refine ⟨w, v, q', rfl, ?_⟩
    rcases hv with rfl | rfl
    · refine .inl ⟨rfl, ?_⟩
      cases c with
      | nil => rfl
      | cons x c' => simp at h
    · refine .inr ⟨rfl, ?_⟩
      cases b with
      | nil => rfl
      | cons x c' => simp at h
/-! ### runs -/
def csteps (M : Mach) (c : Cfg) : Nat → List Cfg
  | 0 => [c]
  | n + 1 => match cnx M c with
    | none => [c]
    | some c' => c :: csteps M c' n
def psteps (M : Mach) (p : Pos) : Nat → List Pos
  | 0 => [p]
  | n + 1 => match nx M p with
    | none => [p]
    | some p' => p :: psteps M p' n
theorem csteps_cons (M : Mach) (c : Cfg) (n : Nat) : ∃ t, csteps M c n = c :: t := by
  cases n with
  | zero => exact ⟨[], rfl⟩
  | succ n =>
    unfold csteps
    split
    · exact ⟨[], rfl⟩
    · exact ⟨_, rfl⟩
theorem psteps_cons (M : Mach) (p : Pos) (n : Nat) : ∃ t, psteps M p n = p :: t := by
  cases n with
  | zero => exact ⟨[], rfl⟩
  | succ n =>
    unfold psteps
    split
    · exact ⟨[], rfl⟩
    · exact ⟨_, rfl⟩
theorem psteps_len (M : Mach) : ∀ (n : Nat) (p : Pos), (psteps M p n).length ≤ n + 1
  | 0, p => Nat.le_refl _
  | n + 1, p => by
    unfold psteps
    split
    · simp
    · have := psteps_len M n
      simp only [List.length_cons]
      exact Nat.succ_le_succ (this _)
/-- the fillings: a row for each step, as long as there is one -/
def Run (L : T4 → Prop) : List Int → Nat → List (List T4) → Prop
  | _, 0, rs => rs = []
  | f, n + 1, rs => f.length ≤ 60 ∧ ((rs = [] ∧ ∀ r, ¬ IsRow L 0 f 0 r) ∨ ∃ r rs', rs = r :: rs' ∧ (∀ r', IsRow L 0 f 0 r' ↔ r' = r) ∧ Run L (r.map T4.n) n rs')
theorem run_of {M : Mach} (ok : M.Ok) : ∀ (n : Nat) {p : Pos}, p.Ok M → p.b.length + p.c.length < 60 → ∃ rs, Run (IsT M) (fl M p) n rs ∧ rs.map (·.map T4.n) = ((psteps M p n).map (fl M)).tail ∧ (∀ p' ∈ psteps M p n, p'.Ok M ∧ p'.b.length + p'.c.length = p.b.length + p.c.length)
  | 0, p, hp, hw => ⟨[], rfl, rfl, fun p' h => by
      have : p' = p := by simpa [psteps] using h
      subst this
      exact ⟨hp, rfl⟩⟩
  | n + 1, p, hp, hw => by
    have hl : (fl M p).length ≤ 60 := by rw [fl_length]; omega
    unfold psteps
    cases h : nx M p with
    | none =>
      refine ⟨[], ⟨hl, .inl ⟨rfl, det_none ok hp h⟩⟩, rfl, fun p' h => ?_⟩
      have : p' = p := by simpa using h
      subst this
      exact ⟨hp, rfl⟩
    | some p' =>
      obtain ⟨hp', r, u, e⟩ := det_some ok hp h
      have hw' := nx_width h
      obtain ⟨rs, h1, h2, h3⟩ := run_of ok n hp' (by omega)
      refine ⟨r :: rs, ⟨hl, .inr ⟨r, rs, rfl, u, by rw [e]; exact h1⟩⟩, ?_, fun z hz => ?_⟩
      · obtain ⟨t, et⟩ := psteps_cons M p' n
        show r.map T4.n :: rs.map (·.map T4.n) = (psteps M p' n).map (fl M)
        rw [h2, e, et]
        rfl
      · rcases List.mem_cons.mp hz with rfl | hz
        · exact ⟨hp, rfl⟩
        · have := h3 z hz
          exact ⟨this.1, by omega⟩
end K23
set_option Elab.async false
set_option linter.all false
/-! The list of the tiles of a machine. No program in sight. -/
namespace K23
def part (M : Mach) (q a : Int) : List T4 :=
  [⟨0, M.let q a, 1 + 2 * q, a⟩, ⟨2 + 2 * q, M.let q a, 0, a⟩] ++ (match M.R q a with
    | none => []
    | some (w, v, q') => if v = 1 then [⟨1 + 2 * q', w, 0, M.let q a⟩] else [⟨0, w, 2 + 2 * q', M.let q a⟩])
def blanks (n : Nat) : List T4 := (List.range n).map fun x : Nat => blank (x : Int)
def line (M : Mach) (q : Int) (n : Nat) : List T4 := (List.range n).flatMap fun a : Nat => part M q (a : Int)
def all (M : Mach) (i : Nat) : List T4 := blanks M.m.toNat ++ (List.range i).flatMap fun q : Nat => line M (q : Int) M.m.toNat
theorem blanks_succ (n : Nat) : blanks (n + 1) = blanks n ++ [blank (n : Int)] := by
  unfold blanks
  rw [List.range_succ, List.map_append]
  rfl
theorem line_succ (M : Mach) (q : Int) (n : Nat) : line M q (n + 1) = line M q n ++ part M q (n : Int) := by
  unfold line
  rw [List.range_succ, List.flatMap_append, List.flatMap_singleton]
theorem all_succ (M : Mach) (i : Nat) : all M (i + 1) = all M i ++ line M (i : Int) M.m.toNat := by
  unfold all
  rw [List.range_succ, List.flatMap_append, List.flatMap_singleton, List.append_assoc]
section
variable {M : Mach}
theorem mem_part {q a : Int} {t : T4} : t ∈ part M q a ↔ t = ⟨0, M.let q a, 1 + 2 * q, a⟩ ∨ t = ⟨2 + 2 * q, M.let q a, 0, a⟩ ∨ ∃ w v q', M.R q a = some (w, v, q') ∧ t = (if v = 1 then ⟨1 + 2 * q', w, 0, M.let q a⟩ else ⟨0, w, 2 + 2 * q', M.let q a⟩) := by
  have e : part M q a = [⟨0, M.let q a, 1 + 2 * q, a⟩, ⟨2 + 2 * q, M.let q a, 0, a⟩] ++ (match M.R q a with
    | none => []
    | some (w, v, q') => if v = 1 then [⟨1 + 2 * q', w, 0, M.let q a⟩] else [⟨0, w, 2 + 2 * q', M.let q a⟩]) := rfl
  rw [e]
  cases h : M.R q a with
  | none => simp
  | some z =>
    obtain ⟨w, v, q'⟩ := z
    by_cases hv : v = 1
    · constructor
      · intro h
        simp [hv] at h
        rcases h with h | h | h
        · exact .inl h
        · exact .inr (.inl h)
        · exact .inr (.inr ⟨w, v, q', rfl, by rw [if_pos hv]; exact h⟩)
      · rintro (h | h | ⟨w2, v2, q2, e2, h⟩)
        · simp [h]
        · simp [h]
        · cases e2
          rw [if_pos hv] at h
          simp [hv, h]
    · constructor
      · intro h
        simp [hv] at h
        rcases h with h | h | h
        · exact .inl h
        · exact .inr (.inl h)
        · exact .inr (.inr ⟨w, v, q', rfl, by rw [if_neg hv]; exact h⟩)
      · rintro (h | h | ⟨w2, v2, q2, e2, h⟩)
        · simp [h]
        · simp [h]
        · cases e2
          rw [if_neg hv] at h
          simp [hv, h]
theorem part_isT (ok : M.Ok) {q a : Int} (q0 : 0 ≤ q) (q1 : q < M.st) (a0 : 0 ≤ a) (a1 : a < M.m) {t : T4} (h : t ∈ part M q a) : IsT M t := by
  rcases mem_part.mp h with rfl | rfl | ⟨w, v, q', hR, rfl⟩
  · exact .inR q a q0 q1 a0 a1
  · exact .inL q a q0 q1 a0 a1
  · obtain ⟨_, _, hv, _⟩ := ok.row q a w v q' q0 q1 a0 a1 hR
    rcases hv with rfl | rfl
    · exact .outR q a w q' q0 q1 a0 a1 hR
    · exact .outL q a w q' q0 q1 a0 a1 hR
theorem mem_all (ok : M.Ok) {t : T4} : t ∈ all M M.st.toNat ↔ IsT M t := by
  have hm := ok.m2
  have hs := ok.s1
  constructor
  · intro h
    rcases List.mem_append.mp h with h | h
    · obtain ⟨x, hx, rfl⟩ := List.mem_map.mp h
      have := List.mem_range.mp hx
      exact .blank _ (by omega) (by omega)
    · obtain ⟨q, hq, h⟩ := List.mem_flatMap.mp h
      obtain ⟨a, ha, h⟩ := List.mem_flatMap.mp h
      have := List.mem_range.mp hq
      have := List.mem_range.mp ha
      exact part_isT ok (by omega) (by omega) (by omega) (by omega) h
  · have put : ∀ {q a : Int}, 0 ≤ q → q < M.st → 0 ≤ a → a < M.m → t ∈ part M q a → t ∈ all M M.st.toNat := fun {q a} q0 q1 a0 a1 h => by
      refine List.mem_append_right _ (List.mem_flatMap.mpr ⟨q.toNat, List.mem_range.mpr (by omega), List.mem_flatMap.mpr ⟨a.toNat, List.mem_range.mpr (by omega), ?_⟩⟩)
      have e1 : (q.toNat : Int) = q := by omega
      have e2 : (a.toNat : Int) = a := by omega
      rw [e1, e2]
      exact h
    intro h
    cases h with
    | blank x h0 h1 =>
      refine List.mem_append_left _ (List.mem_map.mpr ⟨x.toNat, List.mem_range.mpr (by omega), ?_⟩)
      have : (x.toNat : Int) = x := by omega
      rw [this]
      rfl
    | inR q a q0 q1 a0 a1 => exact put q0 q1 a0 a1 (mem_part.mpr (.inl rfl))
    | inL q a q0 q1 a0 a1 => exact put q0 q1 a0 a1 (mem_part.mpr (.inr (.inl rfl)))
    | outR q a w q' q0 q1 a0 a1 hR => exact put q0 q1 a0 a1 (mem_part.mpr (.inr (.inr ⟨w, 1, q', hR, rfl⟩)))
    | outL q a w q' q0 q1 a0 a1 hR => exact put q0 q1 a0 a1 (mem_part.mpr (.inr (.inr ⟨w, -1, q', hR, by rw [if_neg (by decide)]⟩)))
/-- a tile tells whose it is -/
theorem part_inj (ok : M.Ok) {q a q2 a2 : Int} (q0 : 0 ≤ q) (a0 : 0 ≤ a) (a1 : a < M.m) (p0 : 0 ≤ q2) (b0 : 0 ≤ a2) (b1 : a2 < M.m) {t : T4} (h : t ∈ part M q a) (h2 : t ∈ part M q2 a2) : q = q2 ∧ a = a2 := by
  have k : ∀ {q a : Int}, t ∈ part M q a → (t.n = M.let q a ∧ t.s = a) ∨ t.s = M.let q a := fun {q a} h => by
    rcases mem_part.mp h with rfl | rfl | ⟨w, v, q', hR, rfl⟩
    · exact .inl ⟨rfl, rfl⟩
    · exact .inl ⟨rfl, rfl⟩
    · right
      by_cases hv : v = 1
      · rw [if_pos hv]
      · rw [if_neg hv]
  have l1 := let_ge ok q0 a0
  have l2 := let_ge ok p0 b0
  rcases k h with ⟨h3, h4⟩ | h3
  · rcases k h2 with ⟨h5, h6⟩ | h5
    · exact let_inj ok a0 a1 b0 b1 (h3.symm.trans h5)
    · omega
  · rcases k h2 with ⟨h5, h6⟩ | h5
    · omega
    · exact let_inj ok a0 a1 b0 b1 (h3.symm.trans h5)
theorem part_nodup (ok : M.Ok) {q a : Int} (q0 : 0 ≤ q) (q1 : q < M.st) (a0 : 0 ≤ a) (a1 : a < M.m) : (part M q a).Nodup := by
  have l1 := let_ge ok q0 a0
  unfold part
  cases h : M.R q a with
  | none =>
    simp
    intro e
    omega
  | some z =>
    obtain ⟨w, v, q'⟩ := z
    by_cases hv : v = 1
    · simp [hv]
      refine ⟨⟨fun e => by omega, fun e1 e2 e3 => by omega⟩, fun e1 e2 e3 => by omega⟩
    · simp [hv]
      refine ⟨⟨fun e => by omega, fun e1 e2 e3 => by omega⟩, fun e1 e2 e3 => by omega⟩
theorem blank_apart (ok : M.Ok) {q a x : Int} (q0 : 0 ≤ q) (a0 : 0 ≤ a) (x1 : x < M.m) {t : T4} (h : t ∈ part M q a) : blank x ≠ t := by
  have l1 := let_ge ok q0 a0
  rcases mem_part.mp h with rfl | rfl | ⟨w, v, q', hR, rfl⟩
  · intro e
    have : x = M.let q a := congrArg T4.n e
    omega
  · intro e
    have : x = M.let q a := congrArg T4.n e
    omega
  · intro e
    have : x = M.let q a := by
      have := congrArg T4.s e
      by_cases hv : v = 1
      · rw [if_pos hv] at this
        exact this
      · rw [if_neg hv] at this
        exact this
    omega
theorem range_lt (n : Nat) : (List.range n).Pairwise (· < ·) := List.pairwise_lt_range
theorem all_nodup (ok : M.Ok) : (all M M.st.toNat).Nodup := by
  have hm := ok.m2
  have hs := ok.s1
  refine List.nodup_append.mpr ⟨?_, ?_, ?_⟩
  · refine List.pairwise_map.mpr ((range_lt _).imp fun {i j} lt e => ?_)
    have : (i : Int) = (j : Int) := congrArg T4.n e
    omega
  · refine List.pairwise_flatMap.mpr ⟨fun q hq => ?_, (range_lt _).imp_of_mem fun {i j} hi hj lt t ht u hu e => ?_⟩
    · have := List.mem_range.mp hq
      refine List.pairwise_flatMap.mpr ⟨fun a ha => ?_, (range_lt _).imp_of_mem fun {i j} hi hj lt t ht u hu e => ?_⟩
      · have := List.mem_range.mp ha
        exact part_nodup ok (by omega) (by omega) (by omega) (by omega)
      · have := List.mem_range.mp hi
        have := List.mem_range.mp hj
        subst e
        have := (part_inj ok (by omega) (by omega) (by omega) (by omega) (by omega) (by omega) ht hu).2
        omega
    · obtain ⟨a, ha, ht⟩ := List.mem_flatMap.mp ht
      obtain ⟨b, hb, hu⟩ := List.mem_flatMap.mp hu
      have := List.mem_range.mp ha
      have := List.mem_range.mp hb
      subst e
      have := (part_inj ok (by omega) (by omega) (by omega) (by omega) (by omega) (by omega) ht hu).1
      omega
  · intro t ht u hu e
    obtain ⟨x, hx, rfl⟩ := List.mem_map.mp ht
    obtain ⟨q, hq, hu⟩ := List.mem_flatMap.mp hu
    obtain ⟨a, ha, hu⟩ := List.mem_flatMap.mp hu
    have := List.mem_range.mp hx
    exact blank_apart ok (by omega) (by omega) (by omega) hu e
theorem part_len (q a : Int) : (part M q a).length ≤ 3 := by
  unfold part
  cases h : M.R q a with
  | none => simp
  | some z =>
    obtain ⟨w, v, q'⟩ := z
    by_cases hv : v = 1 <;> simp [hv]
theorem line_len (q : Int) : ∀ n : Nat, (line M q n).length ≤ 3 * n
  | 0 => Nat.le_refl _
  | n + 1 => by
    rw [line_succ, List.length_append]
    have := line_len q n
    have := part_len (M := M) q n
    omega
theorem all_len (ok : M.Ok) : ∀ i : Nat, (all M i).length ≤ 5 + 15 * i
  | 0 => by
    have := ok.m5
    unfold all blanks
    simp
    omega
  | i + 1 => by
    rw [all_succ, List.length_append]
    have := all_len ok i
    have := line_len (M := M) i M.m.toNat
    have := ok.m5
    omega
/-- the colours are small -/
theorem colours (ok : M.Ok) {t : T4} (h : IsT M t) : ∀ n ∈ [t.e, t.n, t.w, t.s], 0 ≤ n ∧ n ≤ 999 := by
  have m2 := ok.m2
  have m5 := ok.m5
  have s4 := ok.s4
  have hl : ∀ {q a : Int}, 0 ≤ q → q < M.st → 0 ≤ a → a < M.m → 0 ≤ M.let q a ∧ M.let q a ≤ 999 := fun {q a} q0 q1 a0 a1 => by
    have h1 := let_ge ok q0 a0
    have h2 : M.m * (q + 1) ≤ 5 * (q + 1) := Int.mul_le_mul_of_nonneg_right m5 (by omega)
    unfold Mach.let at h1 ⊢
    omega
  cases h with
  | blank x h0 h1 =>
    intro n hn
    simp at hn
    omega
  | inR q a q0 q1 a0 a1 =>
    have := hl q0 q1 a0 a1
    intro n hn
    simp at hn
    omega
  | inL q a q0 q1 a0 a1 =>
    have := hl q0 q1 a0 a1
    intro n hn
    simp at hn
    omega
  | outR q a w q' q0 q1 a0 a1 hR =>
    have := hl q0 q1 a0 a1
    obtain ⟨_, _, _, _, _⟩ := ok.row q a w 1 q' q0 q1 a0 a1 hR
    intro n hn
    simp at hn
    omega
  | outL q a w q' q0 q1 a0 a1 hR =>
    have := hl q0 q1 a0 a1
    obtain ⟨_, _, _, _, _⟩ := ok.row q a w (-1) q' q0 q1 a0 a1 hR
    intro n hn
    simp at hn
    omega
end
end K23
set_option Elab.async false
set_option linter.all false
/-! One row alone: its parts. No program in sight. -/
namespace K23
/-- a row's beginning leads from the west c to the west c' of what follows -/
def Pre (L : T4 → Prop) : List Int → Int → List T4 → Int → Prop
  | [], c, [], c' => c = c'
  | s :: fs, c, t :: ts, c' => L t ∧ t.s = s ∧ t.w = c ∧ Pre L fs t.e ts c'
  | _, _, _, _ => False
section
variable {L : T4 → Prop} {right : Int}
theorem row_split : ∀ {f1 f2 : List Int} {c : Int} {r1 r2 : List T4}, r1.length = f1.length → (IsRow L right (f1 ++ f2) c (r1 ++ r2) ↔ ∃ c', Pre L f1 c r1 c' ∧ IsRow L right f2 c' r2)
  | [], f2, c, [], r2, _ => ⟨fun h => ⟨c, rfl, h⟩, fun ⟨c', e, h⟩ => by
      have e : c = c' := e
      subst e
      exact h⟩
  | [], f2, c, t :: r1, r2, h => by simp at h
  | s :: f1, f2, c, [], r2, h => by simp at h
  | s :: f1, f2, c, t :: r1, r2, h => by
    have ih := row_split (f1 := f1) (f2 := f2) (c := t.e) (r1 := r1) (r2 := r2) (by simpa using h)
    constructor
    · intro hr
      have hr : L t ∧ t.s = s ∧ t.w = c ∧ IsRow L right (f1 ++ f2) t.e (r1 ++ r2) := hr
      obtain ⟨h1, h2, h3, h4⟩ := hr
      obtain ⟨c', hp, hq⟩ := ih.mp h4
      exact ⟨c', ⟨h1, h2, h3, hp⟩, hq⟩
    · rintro ⟨c', ⟨h1, h2, h3, hp⟩, hq⟩
      exact ⟨h1, h2, h3, ih.mpr ⟨c', hp, hq⟩⟩
/-- the west of the next tile -/
def west (left : Int) (r : List T4) : Int := match r.getLast? with
  | none => left
  | some t => t.e
theorem west_cons (left : Int) (t : T4) (r : List T4) : west left (t :: r) = west t.e r := by
  unfold west
  cases r with
  | nil => rfl
  | cons u r => rw [List.getLast?_cons_cons]; cases h : (u :: r).getLast? with
    | none => simp at h
    | some v => rfl
theorem pre_west : ∀ {f : List Int} {c : Int} {r : List T4} {c' : Int}, Pre L f c r c' → c' = west c r
  | [], c, [], c', h => (show c = c' from h).symm
  | [], c, t :: r, c', h => h.elim
  | s :: f, c, [], c', h => h.elim
  | s :: f, c, t :: r, c', h => by
    rw [west_cons]
    exact pre_west (show Pre L f t.e r c' from h.2.2.2)
/-- the i-th tile of the only row: it fits, and nothing else does -/
theorem uniq_at {f : List Int} {left : Int} {r : List T4} (u : ∀ r', IsRow L right f left r' ↔ r' = r) {i : Nat} {s : Int} (hs : f[i]? = some s) :
    ∃ t, r[i]? = some t ∧ L t ∧ t.w = west left (r.take i) ∧ t.s = s ∧ Fin L right (f.drop (i + 1)) t.e ∧
      ∀ x, L x → x.w = west left (r.take i) → x.s = s → Fin L right (f.drop (i + 1)) x.e → x = t := by
  have hr : IsRow L right f left r := (u r).mpr rfl
  have len := hr.length
  have li : i < f.length := (List.getElem?_eq_some_iff.mp hs).1
  have ef : f = f.take i ++ s :: f.drop (i + 1) := by
    have e1 := List.drop_eq_getElem_cons li
    have e2 : f[i] = s := (List.getElem?_eq_some_iff.mp hs).2
    rw [e2] at e1
    rw [← e1, List.take_append_drop]
  have lr : i < r.length := by omega
  have er : r = r.take i ++ r[i] :: r.drop (i + 1) := by rw [← List.drop_eq_getElem_cons lr, List.take_append_drop]
  have lt : (r.take i).length = (f.take i).length := by
    rw [List.length_take, List.length_take, len]
  have sp : ∀ r2, IsRow L right f left (r.take i ++ r2) ↔ ∃ c', Pre L (f.take i) left (r.take i) c' ∧ IsRow L right (s :: f.drop (i + 1)) c' r2 := fun r2 => by
    conv => lhs; rw [ef]
    exact row_split lt
  obtain ⟨c', hp, hq⟩ := (sp (r[i] :: r.drop (i + 1))).mp (by rw [← er]; exact hr)
  have ec := pre_west hp
  subst ec
  obtain ⟨h1, h2, h3, h4⟩ := (show L r[i] ∧ r[i].s = s ∧ r[i].w = _ ∧ IsRow L right (f.drop (i + 1)) r[i].e (r.drop (i + 1)) from hq)
  refine ⟨r[i], List.getElem?_eq_getElem lr, h1, h3, h2, ⟨_, h4⟩, fun x hx xw xs ⟨r2, h5⟩ => ?_⟩
  have := (u _).mp ((sp (x :: r2)).mpr ⟨_, hp, hx, xs, xw, h5⟩)
  have e : (r.take i ++ x :: r2)[i]? = r[i]? := by rw [this]
  have lti : (r.take i).length = i := by rw [List.length_take]; omega
  rw [List.getElem?_append_right (by omega), lti, Nat.sub_self, List.getElem?_eq_getElem lr] at e
  exact Option.some.inj e
end
/-- a filter that one item alone passes -/
theorem filter_one {α β : Type} {f : α → β} {p : α → Bool} : ∀ {l : List α} {x : α}, (l.map f).Nodup → x ∈ l → p x = true → (∀ y ∈ l, p y = true → f y = f x) → l.filter p = [x]
  | [], x, _, h, _, _ => by cases h
  | z :: l, x, nd, hx, px, u => by
    rw [List.map_cons] at nd
    obtain ⟨nz, nd⟩ := List.nodup_cons.mp nd
    rcases List.mem_cons.mp hx with rfl | hx
    · rw [List.filter_cons_of_pos px]
      have : l.filter p = [] := List.filter_eq_nil_iff.mpr fun y hy py => nz (by
        rw [← u y (List.mem_cons_of_mem _ hy) py]
        exact List.mem_map.mpr ⟨y, hy, rfl⟩)
      rw [this]
    · have np : ¬ p z = true := fun pz => nz (by
        rw [u z (List.mem_cons_self ..) pz]
        exact List.mem_map.mpr ⟨x, hx, rfl⟩)
      rw [List.filter_cons_of_neg np]
      exact filter_one nd hx px fun y hy py => u y (List.mem_cons_of_mem _ hy) py
end K23
namespace K23
section
variable {L : T4 → Prop} {right : Int}
/-- each tile of a row fits -/
theorem row_at {f : List Int} {left : Int} {r : List T4} (h : IsRow L right f left r) {j : Nat} {t : T4} (ht : r[j]? = some t) : ∃ s, f[j]? = some s ∧ t.s = s ∧ t.w = west left (r.take j) ∧ L t := by
  have len := h.length
  have lj : j < r.length := (List.getElem?_eq_some_iff.mp ht).1
  have lf : j < f.length := by omega
  have er : r = r.take j ++ t :: r.drop (j + 1) := by
    have e1 := List.drop_eq_getElem_cons lj
    have e2 : r[j] = t := (List.getElem?_eq_some_iff.mp ht).2
    rw [e2] at e1
    rw [← e1, List.take_append_drop]
  have ef : f = f.take j ++ f[j] :: f.drop (j + 1) := by rw [← List.drop_eq_getElem_cons lf, List.take_append_drop]
  have h2 := h
  rw [ef, er] at h2
  have lt : (r.take j).length = (f.take j).length := by rw [List.length_take, List.length_take, len]
  obtain ⟨c', hp, hq⟩ := (row_split lt).mp h2
  have ec := pre_west hp
  subst ec
  obtain ⟨h3, h4, h5, _⟩ := (show L t ∧ t.s = f[j] ∧ t.w = _ ∧ IsRow L right (f.drop (j + 1)) t.e (r.drop (j + 1)) from hq)
  exact ⟨f[j], List.getElem?_eq_getElem lf, h4, h5, h3⟩
/-- .. and the last one ends at the wall -/
theorem row_end : ∀ {f : List Int} {left : Int} {r : List T4}, IsRow L right f left r → west left r = right
  | [], left, [], h => h
  | [], left, t :: r, h => h.elim
  | s :: f, left, [], h => h.elim
  | s :: f, left, t :: r, h => by
    rw [west_cons]
    exact row_end (show IsRow L right f t.e r from h.2.2.2)
theorem west_take {left : Int} {r : List T4} {j : Nat} {t : T4} (h : r[j]? = some t) : west left (r.take (j + 1)) = t.e := by
  unfold west
  rw [List.take_add_one, h]
  simp
/-- a filling -/
def Filled (L : T4 → Prop) : List Int → List (List T4) → Prop
  | _, [] => True
  | f, r :: rs => f.length ≤ 60 ∧ IsRow L 0 f 0 r ∧ Filled L (r.map T4.n) rs
theorem run_filled : ∀ {n : Nat} {f : List Int} {rs : List (List T4)}, Run L f n rs → Filled L f rs
  | 0, f, rs, h => by
    have h : rs = [] := h
    subst h
    trivial
  | n + 1, f, rs, h => by
    obtain ⟨h1, h2⟩ := (show f.length ≤ 60 ∧ ((rs = [] ∧ ∀ r, ¬ IsRow L 0 f 0 r) ∨ ∃ r rs', rs = r :: rs' ∧ (∀ r', IsRow L 0 f 0 r' ↔ r' = r) ∧ Run L (r.map T4.n) n rs') from h)
    rcases h2 with ⟨rfl, _⟩ | ⟨r, rs', rfl, u, hr⟩
    · trivial
    · exact ⟨h1, (u r).mpr rfl, run_filled hr⟩
/-- the floor ahead of the i-th row -/
def floorAt (f : List Int) (rs : List (List T4)) (i : Nat) : List Int := match i with
  | 0 => f
  | i + 1 => (rs.getD i []).map T4.n
theorem filled_at : ∀ {f : List Int} {rs : List (List T4)} {i : Nat} {r : List T4}, Filled L f rs → rs[i]? = some r → (floorAt f rs i).length ≤ 60 ∧ IsRow L 0 (floorAt f rs i) 0 r
  | f, [], i, r, _, h => by simp at h
  | f, r0 :: rs, 0, r, h, e => by
    have e : r0 = r := by simpa using e
    subst e
    exact ⟨h.1, h.2.1⟩
  | f, r0 :: rs, i + 1, r, h, e => by
    have e : rs[i]? = some r := by simpa using e
    have := filled_at (show Filled L (r0.map T4.n) rs from h.2.2) e
    cases i with
    | zero => exact this
    | succ i => exact this
theorem floorAt_succ {f : List Int} {rs : List (List T4)} {i : Nat} {r : List T4} (h : rs[i]? = some r) : floorAt f rs (i + 1) = r.map T4.n := by
  show (rs.getD i []).map T4.n = _
  rw [List.getD_eq_getElem?_getD, h]
  rfl
end
end K23
namespace K23
section
variable {L : T4 → Prop}
theorem run_len : ∀ {n : Nat} {f : List Int} {rs : List (List T4)}, Run L f n rs → rs.length ≤ n
  | 0, f, rs, h => by
    have h : rs = [] := h
    subst h
    exact Nat.le_refl _
  | n + 1, f, rs, h => by
    obtain ⟨h1, h2⟩ := (show f.length ≤ 60 ∧ ((rs = [] ∧ ∀ r, ¬ IsRow L 0 f 0 r) ∨ ∃ r rs', rs = r :: rs' ∧ (∀ r', IsRow L 0 f 0 r' ↔ r' = r) ∧ Run L (r.map T4.n) n rs') from h)
    rcases h2 with ⟨rfl, _⟩ | ⟨r, rs', rfl, u, hr⟩
    · exact Nat.zero_le _
    · have := run_len hr
      rw [List.length_cons]
      omega
/-- what stands on the floor after i rows -/
theorem run_at : ∀ {n : Nat} {f : List Int} {rs : List (List T4)} {i : Nat}, Run L f n rs → i < n → i ≤ rs.length → (floorAt f rs i).length = f.length ∧ f.length ≤ 60 ∧
    ((rs[i]? = none ∧ ∀ r, ¬ IsRow L 0 (floorAt f rs i) 0 r) ∨ ∃ r, rs[i]? = some r ∧ ∀ r', IsRow L 0 (floorAt f rs i) 0 r' ↔ r' = r)
  | 0, f, rs, i, _, h, _ => by omega
  | n + 1, f, rs, i, h, hi, hl => by
    obtain ⟨h1, h2⟩ := (show f.length ≤ 60 ∧ ((rs = [] ∧ ∀ r, ¬ IsRow L 0 f 0 r) ∨ ∃ r rs', rs = r :: rs' ∧ (∀ r', IsRow L 0 f 0 r' ↔ r' = r) ∧ Run L (r.map T4.n) n rs') from h)
    rcases h2 with ⟨rfl, no⟩ | ⟨r, rs', rfl, u, hr⟩
    · have e : i = 0 := by
        have : i ≤ 0 := hl
        omega
      subst e
      exact ⟨rfl, h1, .inl ⟨rfl, no⟩⟩
    · cases i with
      | zero => exact ⟨rfl, h1, .inr ⟨r, rfl, u⟩⟩
      | succ i =>
        have hl : i ≤ rs'.length := by
          rw [List.length_cons] at hl
          omega
        have lr : (r.map T4.n).length = f.length := by
          rw [List.length_map]
          exact ((u r).mpr rfl).length
        have := run_at (i := i) hr (by omega) hl
        have e : floorAt f (r :: rs') (i + 1) = floorAt (r.map T4.n) rs' i := by
          cases i with
          | zero => rfl
          | succ i => rfl
        rw [e, List.getElem?_cons_succ]
        exact ⟨this.1.trans lr, h1, this.2.2⟩
theorem floorAt_len {n : Nat} {f : List Int} {rs : List (List T4)} {i : Nat} (h : Run L f n rs) (hl : i ≤ rs.length) : (floorAt f rs i).length = f.length := by
  cases i with
  | zero => rfl
  | succ i =>
    have hr := rs[i]? 
    have e : rs[i]? = some rs[i] := List.getElem?_eq_getElem (by omega)
    have ln := run_len h
    obtain ⟨h1, _, h2⟩ := run_at h (i := i) (by omega) (by omega)
    rw [floorAt_succ e, List.length_map]
    rcases h2 with ⟨h3, _⟩ | ⟨r, h3, u⟩
    · rw [e] at h3
      cases h3
    · rw [e] at h3
      cases h3
      rw [((u _).mpr rfl).length, h1]
end
end K23
set_option Elab.async false
set_option linter.all false
/-! The run and the places: how they go together. No program in sight. -/
namespace K23
section
variable {M : Mach}
theorem cnx_row {c c' : Cfg} (h : cnx M c = some c') : ∃ w v q', M.R c.q c.a = some (w, v, q') := by
  unfold cnx at h
  cases e : M.R c.q c.a with
  | none =>
    rw [e] at h
    cases h
  | some z =>
    obtain ⟨w, v, q'⟩ := z
    exact ⟨w, v, q', rfl⟩
/-- where the head goes -/
theorem nx_at (ok : M.Ok) {p p' : Pos} (hp : p.Ok M) {w v q' : Int} (hR : M.R p.q p.a = some (w, v, q')) (h : nx M p = some p') : (p'.b.length : Int) = (p.b.length : Int) + v := by
  obtain ⟨b, q, a, c⟩ := p
  obtain ⟨_, _, hv, _⟩ := ok.row q a w v q' hp.q0 hp.q1 hp.a0 hp.a1 hR
  unfold nx at h
  have hR : M.R q a = some (w, v, q') := hR
  simp only [hR] at h
  rcases hv with rfl | rfl
  · rw [if_pos rfl] at h
    cases c with
    | nil => simp at h
    | cons x c' =>
      simp at h
      subst h
      simp
  · rw [if_neg (by decide)] at h
    cases b with
    | nil => simp at h
    | cons x b' =>
      simp at h
      subst h
      simp
      omega
theorem nx_none {p : Pos} (h : cnx M (cfg p) = none) : nx M p = none := by
  cases e : nx M p with
  | none => rfl
  | some p' =>
    rw [cfg_nx e] at h
    cases h
/-- the run's end is the places' end -/
theorem one_place {p : Pos} : ∀ {k : Nat}, (csteps M (cfg p) k).length = 1 → psteps M p k = [p]
  | 0, _ => rfl
  | k + 1, h => by
    unfold csteps at h
    cases e : cnx M (cfg p) with
    | none =>
      unfold psteps
      rw [nx_none e]
    | some c' =>
      rw [e] at h
      obtain ⟨t, et⟩ := csteps_cons M c' k
      have h : (cfg p :: csteps M c' k).length = 1 := h
      rw [et] at h
      simp at h
/-- a whole run of places is the run -/
theorem full_run : ∀ {n : Nat} {p : Pos}, (psteps M p n).length = n + 1 → csteps M (cfg p) n = (psteps M p n).map cfg
  | 0, p, _ => rfl
  | n + 1, p, h => by
    unfold psteps at h ⊢
    unfold csteps
    cases e : nx M p with
    | none =>
      rw [e] at h
      simp at h
    | some p' =>
      rw [e] at h
      rw [cfg_nx e]
      have := full_run (n := n) (p := p') (by simpa using h)
      show cfg p :: csteps M (cfg p') n = cfg p :: (psteps M p' n).map cfg
      rw [this]
/-- with the margin nothing leaves the floor -/
theorem no_out (ok : M.Ok) : ∀ {n : Nat} {p : Pos}, p.Ok M → n ≤ p.b.length → n ≤ p.c.length → (psteps M p n).length = (csteps M (cfg p) n).length
  | 0, p, _, _, _ => rfl
  | n + 1, p, hp, hb, hc => by
    unfold psteps csteps
    cases e : nx M p with
    | none =>
      cases e2 : cnx M (cfg p) with
      | none => rfl
      | some c' =>
        obtain ⟨w, v, q', _, h⟩ := cfg_out ok hp e e2
        rcases h with ⟨_, h⟩ | ⟨_, h⟩
        · rw [h] at hc
          simp at hc
        · rw [h] at hb
          simp at hb
    | some p' =>
      rw [cfg_nx e]
      obtain ⟨w, v, q', hR⟩ := cnx_row (cfg_nx e)
      have hR : M.R p.q p.a = some (w, v, q') := hR
      have ha := nx_at ok hp hR e
      have hw := nx_width e
      obtain ⟨_, _, hv, _⟩ := ok.row _ _ w v q' hp.q0 hp.q1 hp.a0 hp.a1 hR
      have hp' := (det_some ok hp e).1
      have ih := no_out ok (n := n) hp' (by omega) (by omega)
      show (p :: psteps M p' n).length = (cfg p :: csteps M (cfg p') n).length
      rw [List.length_cons, List.length_cons, ih]
end
end K23
set_option Elab.async false
set_option linter.all false
set_option maxRecDepth 100000
set_option maxHeartbeats 4000000
/-! Rules of my own over the hand layer: dicts whose keys are tuples. -/
namespace L2.K23
open PySem PySem.Spec PyProof.Rows
section
variable {X : Cx} {pins : List (Addr × Obj)} {σ : St} {H : Hp} {s : Shared} {d b : Addr} {kvs : List (List Key × V)} {k : List Key} {y : V} {r : Value} {A : Around} {E : Value → Shared → Prop}
/-- what a tuple-keyed dict is after a store, for the invariant -/
theorem dt_stored {h' : Heap} {t' : Nat} {xs : List (List Key × Addr × Value)} (I : Inv X pins σ H s) (hd : H d = some (.dT kvs)) (hb : H b = some (.tup (k.map kV))) (hy : RelV y r) (hlt : kvs.length < sizeLine)
    (hsys : (d == sysModules) = false) (rel : KT H kvs xs) (dd : h'.DictOfH (tupleKind (mixKind X.prog X.w)) d (storedH xs k b r)) (hs : Heap.SameBut d s.heap h') :
    Inv X pins σ (upd H d (.dT (putK kvs k y))) { s with heap := h', toks := t' } := by
  obtain ⟨ob, es, ep, g1, g2, g3, g4, _, g5⟩ := dd
  have hmut : Mut (H d) := by
    rw [hd]
    exact True.intro
  have hlen : (putK kvs k y).length ≤ sizeLine := by
    have := length_putK kvs k y
    omega
  have hrel : KT (upd H d (.dT (putK kvs k y))) (putK kvs k y) (storedH xs k b r) := by
    refine (rel.put k hb hy).keeps fun c ys ec => ?_
    have hne : c ≠ d := ne_of ec hd fun z => nomatch z
    rw [upd_ne hne]
    exact ec
  exact d_write I hmut hs ⟨ob, g1⟩ ⟨hlen, hsys, _, hrel, ob, es, ep, g1, g2, g3, g4, g5⟩
/-- the store of a display or a comprehension -/
theorem dt_set {Q : Unit → Shared → Prop} (hu : A.units < cLine) (I : Inv X pins σ H s) (hd : H d = some (.dT kvs)) (hb : H b = some (.tup (k.map kV))) (hy : RelV y r) (hlt : kvs.length < sizeLine)
    (h : ∀ s', Inv X pins σ (upd H d (.dT (putK kvs k y))) s' → Q () s') : wpAny (model X.prog X.w) A (dictSet d (.ref b) r) Q E s := by
  obtain ⟨_, hsys, xs, rel, dd⟩ := dt_of I.hok hd
  have hsz : xs.length ≤ sizeLine := by
    have := Paired.length rel
    omega
  exact wpAny_dictSet_heap (hsz := hsz) hu (key_of I.hok hb) dd fun h' dd' hs => h _ (dt_stored I hd hb hy hlt hsys rel dd' hs)
theorem dt_setdefault {Q : Value → Shared → Prop} (hu : A.units + 1 < cLine) (I : Inv X pins σ H s) (hd : H d = some (.dT kvs)) (hb : H b = some (.tup (k.map kV))) (hy : RelV y r) (hlt : kvs.length < sizeLine)
    (h1 : ∀ v, valV kvs k = some v → ∀ (u : Value) (s' : Shared), Inv X pins σ H s' → RelV v u → Q u s')
    (h2 : valV kvs k = none → ∀ (s' : Shared), Inv X pins σ (upd H d (.dT (putK kvs k y))) s' → Q r s') :
    wpAny (model X.prog X.w) A (call (.builtin "dict.setdefault") [.ref d, .ref b, r]) Q E s := by
  obtain ⟨_, hsys, xs, rel, dd⟩ := dt_of I.hok hd
  have hsz : xs.length ≤ sizeLine := by
    have := Paired.length rel
    omega
  have hval := rel.val k
  refine call_setdefault_heap (hsz := hsz) (tupleKind_room_in1 hu) (key_of I.hok hb) hsys dd (fun p hp => ?_) fun hn h' dd' hs => ?_
  · rw [hp] at hval
    cases q : valV kvs k with
    | none =>
      rw [q] at hval
      exact (show False from hval).elim
    | some v =>
      rw [q] at hval
      exact h1 v q _ _ (I.tok _) hval
  · rw [hn] at hval
    cases q : valV kvs k with
    | some v =>
      rw [q] at hval
      exact (show False from hval).elim
    | none => exact h2 q _ (dt_stored I hd hb hy hlt hsys rel dd' hs)
end
/-- d.setdefault(t, z), the keys tuples -/
def tSetdT (td tk tz : TE) : TE := fun σ H Q => td σ H fun x H1 => ∃ a, x = .ref a ∧ IsD H1 a ∧ tk σ H1 fun y H2 => tz σ H2 fun z H3 =>
  ∃ (kvs : List (List Key × V)) (k : List Key) (b : Addr), H3 a = some (.dT kvs) ∧ y = .ref b ∧ H3 b = some (.tup (k.map kV)) ∧ kvs.length < sizeLine ∧
    (∀ v, valV kvs k = some v → Q v H3) ∧ (valV kvs k = none → Q z (upd H3 a (.dT (putK kvs k z))))
section
variable {X : Cx} {o e f : Expr} {td tk tz : TE} {apos cpos : Pos}
theorem pe_setdT (hu : X.A.units + 1 < cLine) (ho : PE X o td) (he : PE X e tk) (hf : PE X f tz) (m : M2 X o "setdefault" apos e f cpos) : PE X (.Call (.Attribute o "setdefault" apos) [e, f] [] cpos) (tSetdT td tk tz) := by
  constructor
  intro pins s σ H Q I h
  refine wpAny_Call_method m.base m.few m.line PySem.F.plainAttrs_dict PySem.F.slot_dict_setdefault PySem.F.type_dict_setdefault (thn (ho.run pins s σ H _ I h) fun u s1 hx => ?_)
  obtain ⟨x, H1, I1, rx, a, ex, isd, q1⟩ := hx
  subst ex
  cases (show u = Value.ref a from rx)
  obtain ⟨t1, t2, _⟩ := isD_at I1 isd
  refine ⟨t1, t2, ?_⟩
  rw [m.trees]
  refine Calls.callWith_builtin rfl (Calls.evalArgs_plain (Calls.spliced_cons (thn (he.run pins s1 σ H1 _ I1 q1) fun kv s2 hk => ?_)))
  obtain ⟨y, H2, I2, ry, q2⟩ := hk
  refine Calls.spliced_cons (thn (hf.run pins s2 σ H2 _ I2 q2) fun zv s3 hz => Calls.spliced_nil ?_)
  obtain ⟨z, H3, I3, rz, kvs, k, b, ea, ey, eb, hlt, q3, q4⟩ := hz
  subst ey
  cases (show kv = Value.ref b from ry)
  exact dt_setdefault hu I3 ea eb rz hlt (fun v hv u s4 I4 ru => ⟨v, _, I4, ru, q3 v hv⟩) fun hn s4 I4 => ⟨z, _, I4, rz, q4 hn⟩
end
/-- {t: v}, one pair, the key a tuple -/
def tDisp1T (tk tv : TE) : TE := fun σ H Q => ∀ p, H p = none → tk σ (upd H p (.dT [])) fun y H1 => tv σ H1 fun z H2 =>
  ∃ (k : List Key) (b : Addr), H2 p = some (.dT []) ∧ y = .ref b ∧ H2 b = some (.tup (k.map kV)) ∧ Q (.ref p) (upd H2 p (.dT [(k, z)]))
theorem pe_disp1T {X : Cx} {pos : Pos} {ke ve : Expr} {tk tv : TE} (hu : X.A.units + 1 < cLine) (hk : PE X ke tk) (hv : PE X ve tv) : PE X (.Dict [some ke] [ve] pos) (tDisp1T tk tv) := by
  constructor
  intro pins s σ H Q I q
  have hn := I.hok.fresh (Nat.le_refl s.heap.objs.size)
  have I1 := I.laid (a := s.heap.objs.size) (o := .dT []) (h' := s.heap.push { cls := .type "dict", data := .dict #[] }) (t' := s.toks) (fun _ _ q => Heap.get?_push_of_some _ q) (Nat.le_refl _) (dt_empty s.heap I.big)
  refine wpAny_Dict_any (by rfl) (by rfl) (by simp) (show 1 ≤ 15 by decide) ?_
  refine pairTrees_cons_walk (thn (hk.run pins _ σ _ _ I1 (q _ hn)) fun u s1 hx => ?_)
  obtain ⟨y, H1, I2, ry, q1⟩ := hx
  refine thn (hv.run pins s1 σ H1 _ I2 q1) fun w s2 hz => ?_
  obtain ⟨z, H2, I3, rz, k, b, ep, ey, eb, q2⟩ := hz
  subst ey
  cases (show u = Value.ref b from ry)
  refine pairTrees_nil_walk ?_
  unfold storeAll
  rw [List.forIn_cons]
  refine wpAny_bind (wpAny_bind (dt_set (by omega) I3 ep eb rz (by decide) fun s3 I4 => wpAny_pure ?_))
  refine wpAny_pure ⟨.ref s.heap.objs.size, _, I4, rfl, ?_⟩
  exact q2
end L2.K23
set_option Elab.async false
set_option linter.all false
set_option maxRecDepth 100000
set_option maxHeartbeats 4000000
/-! Rules of my own over the hand layer: a dict comprehension whose keys are tuples, no tests. -/
namespace L2.K23
open PySem PySem.Spec PyProof.Rows
/-- {t: v for target in iter}: D the new dict -/
def tDcT (wi : TI) (g : TG) (tk tv : TE) (vs : List Nat) : TE := fun σ H Q => wi σ H fun J H1 => ∀ D, H1 D = none → ∃ W : Nat → Nat → Hp → Prop,
  (∃ m, W 0 m (upd H1 D (.dT []))) ∧
  ∀ i m H, W i m H → (J.stop i H ∧ Q (.ref D) H) ∨ (J.go i H ∧ ∃ Nx : Hp → Prop, (∀ H', Nx H' → ∃ m', m' < m ∧ W (i + 1) m' H') ∧
    ∀ x H', J.yld i H x H' → g x (wipe σ vs) H' fun σ2 H2 => wipe σ2 vs = wipe σ vs ∧ tk σ2 H2 fun y H4 => tv σ2 H4 fun z H5 =>
      ∃ (kvs : List (List Key × V)) (k : List Key) (b : Addr), y = .ref b ∧ H5 D = some (.dT kvs) ∧ H5 b = some (.tup (k.map kV)) ∧ kvs.length < sizeLine ∧ Nx (upd H5 D (.dT (putK kvs k z))))
section
variable {X : Cx}
abbrev BlkAll (X : Cx) (scope : Scope) (F : Cx → Prop) : Prop := ∀ (s : Shared) (H : Hp) (C : Addr) (cl : List (Str × Addr)) (fp : List Addr), F (X.blk s H scope (compEnvC scope cl C X.env) fp)
theorem dcT_core {pins : List (Addr × Obj)} {s : Shared} {σ : St} {H : Hp} {Q : VK} {ke ve tg iter : Expr} {scope : Scope} {own : List (Str × Nat)} {pos pos' : Pos} {wi : TI} {g : TG} {tk tv : TE}
    {use : Option (Value → Sem Unit)} {Qf : Value → Shared → Prop} (hu : X.A.units < cLine)
    (calm : X.calm = true) (nd : X.N.Nodup) (I : Inv X pins σ H s) (walks : PI X tg iter wi) (blk : BlkOk X.N X.env.scope scope own)
    (target : BlkAll X scope fun Y => PG Y tg g) (keys : BlkAll X scope fun Y => PE Y ke tk) (vals : BlkAll X scope fun Y => PE Y ve tv) (plainIt : ∀ x, foldedSetIterable iter X.env x = pure x)
    (want : tDcT wi g tk tv (own.map (·.2)) σ H Q)
    (ends : ∀ D C s' m H', Inv X pins σ H' s' → Q (.ref D) H' → s'.heap.Ns C m → FpOk X pins H' C → compPost (model X.prog X.w) X.A X.xe use Qf (.ref D) C (.ok .next) s') :
    wpAny (model X.prog X.w) X.A (comprehension (.DictComp ke ve [⟨tg, iter, [], 0⟩] scope pos) scope X.env pos' newDict false (eval iter X.env) use) Qf X.xe s := by
  have frees : ∀ y ∈ scope.names, y.2 = .free → ∃ c, X.env.cells.lookup y.1 = some c := fun y hy ey => by
    rcases blk.free y hy ey with q | q
    · exact I.ok.has _ (.inl q)
    · exact I.ok.has _ (.inr q)
  refine wpAny_comprehension_free (use := use) rfl plainIt (closure_ok frees) blk.kind (fun y hy ey => by
    rw [blk.uniq y hy, ey]) (thn (walks.run pins s σ H _ I want) fun xv s1 hx => thn hx fun itv s2 h2 => ?_)
  obtain ⟨it, fp, tn, J, H2, eit, I2, T, stands2, fps2, q⟩ := h2
  subst eit
  refine wpAny_newObj_type (newEnv_comp ?_)
  generalize hD : s2.heap.objs.size = D
  have freeD : H2 D = none := I2.hok.fresh (Nat.le_of_eq hD)
  obtain ⟨W, ⟨m0, w0⟩, turn⟩ := q D freeD
  generalize hs3 : ({ s2 with heap := s2.heap.push { cls := .type "dict", data := .dict #[] } } : Shared) = s3
  have I3 : Inv X pins σ (upd H2 D (.dT [])) s3 := by
    subst hs3
    refine I2.laid (t' := s2.toks) (fun b o ho => Heap.get?_push_of_some _ ho) (Nat.le_of_eq hD) ?_
    subst hD
    exact dt_empty s2.heap I2.big
  have heap3 : s3.heap = s2.heap.push { cls := .type "dict", data := .dict #[] } := by
    subst hs3
    rfl
  have small : ∀ b ∈ fp, b < s2.heap.objs.size := fun b hb => by
    obtain ⟨o, ho, _⟩ := T.obj _ _ stands2 b hb
    exact Heap.lt_size ho
  have fps3 : ∀ b ∈ fp, FpOk X pins (upd H2 D (.dT [])) b ∧ b < s3.heap.objs.size := fun b hb => by
    have lt := small b hb
    have ne : b ≠ D := by
      subst hD
      exact Nat.ne_of_lt lt
    refine ⟨⟨?_, (fps2 b hb).2⟩, ?_⟩
    · rw [upd_ne ne]
      exact (fps2 b hb).1
    · rw [heap3, Heap.size_push]
      exact Nat.lt_succ_of_lt lt
  have stands3 : tn 0 s3.heap := T.keep _ _ _ stands2 fun b _ o ho => by
    rw [heap3]
    exact Heap.get?_push_of_some _ ho
  have I4 := block_start I3 blk nd fps3
  have pG := target s3 (upd H2 D (.dT [])) s3.heap.objs.size (cellsFrom (s3.heap.objs.size + 1) scope.names (cloFrom X.env.cells scope.names [])) fp
  have pK := keys s3 (upd H2 D (.dT [])) s3.heap.objs.size (cellsFrom (s3.heap.objs.size + 1) scope.names (cloFrom X.env.cells scope.names [])) fp
  have pV := vals s3 (upd H2 D (.dT [])) s3.heap.objs.size (cellsFrom (s3.heap.objs.size + 1) scope.names (cloFrom X.env.cells scope.names [])) fp
  have nofp : ∀ b ∈ fp, (upd H2 D (.dT [])) b = none := fun b hb => (fps3 b hb).1.1
  show codeAny _ _ (.compStart _ 0 (.ref it) (.ref D) (compEnvC scope (cellsFrom (s3.heap.objs.size + 1) scope.names (cloFrom X.env.cells scope.names [])) s3.heap.objs.size X.env))
    (compPost _ X.A X.xe use Qf (.ref D) s3.heap.objs.size) { s3 with heap := pushCells (s3.heap.push { cls := .type "dict", data := .dict #[] }) scope.names }
  generalize hce : compEnvC scope (cellsFrom (s3.heap.objs.size + 1) scope.names (cloFrom X.env.cells scope.names [])) s3.heap.objs.size X.env = ce at I4 pG pK pV ⊢
  have locals : ce.locals = s3.heap.objs.size := by
    subst hce
    rfl
  generalize hH3 : upd H2 D (.dT []) = H3 at I3 I4 pG pK pV w0 nofp fps3
  generalize hs4 : ({ s3 with heap := pushCells (s3.heap.push { cls := .type "dict", data := .dict #[] }) scope.names } : Shared) = s4 at I4 ⊢
  have stands4 : tn 0 s4.heap := T.keep _ _ _ stands3 fun b _ o ho => by
    subst hs4
    exact pushCells_keeps _ _ _ _ (Heap.get?_push_of_some _ ho)
  have still : ∀ {σ' : St} {H' : Hp} {s' : Shared}, Inv (X.blk s3 H3 scope ce fp) [] σ' H' s' → (∀ b ∈ fp, H' b = none) → ∀ b ∈ fp, FpOk (X.blk s3 H3 scope ce fp) [] H' b := by
    intro σ' H' s' I' hn b hb
    exact ⟨hn b hb, (I'.ok.exf b hb).1, I'.ok.exfs b hb, .inl hb, fun x c ec => (I'.ok.exf b hb).2 x c ec, fun p hp => absurd (show p ∈ ([] : List (Addr × Obj)) ++ [] from hp) (by simp)⟩
  have loop : codeAny (model X.prog X.w) X.A (.compLoop (.DictComp ke ve [⟨tg, iter, [], 0⟩] scope pos) 0 (.ref it) (.ref D) ce) (compPost (model X.prog X.w) X.A X.xe use Qf (.ref D) s3.heap.objs.size) s4 := by
    refine compLoop_anyD (fun n s' => ∃ i H', Inv (X.blk s3 H3 scope ce fp) [] (wipe σ (own.map (·.2))) H' s' ∧ tn i s'.heap ∧ (∀ b ∈ fp, H' b = none) ∧ W i n H') ?_ m0 ⟨0, H3, I4, stands4, nofp, w0⟩
    intro n s5 h5
    obtain ⟨i, H5, I5, stands5, nofp5, w5⟩ := h5
    rcases turn i n H5 w5 with ⟨stop, after⟩ | ⟨go, Nx, toNext, step⟩
    · refine thnF (T.done (X.blk s3 H3 scope ce fp) rfl rfl rfl calm i [] s5 _ H5 (fun _ _ => False) I5 (still I5 nofp5) stands5 stop) fun r s6 hr => ?_
      obtain ⟨rfl, I6⟩ := hr
      have I7 : Inv X pins σ H5 s6 := I3.call' (ch := fp) I6.os I6.base I6.hok I6.bare fun b hb =>
        ⟨(fps3 b hb).1.2.2.2.1, (fps3 b hb).1.2.1, (fps3 b hb).1.2.2.2.2.1, (fps3 b hb).1.2.2.2.2.2⟩
      have freeC : H5 s3.heap.objs.size = none := by
        have z : H5 ce.locals = none := I6.free
        rwa [locals] at z
      obtain ⟨m, ns, _⟩ := I6.loc
      have ns : s6.heap.Ns ce.locals m := ns
      rw [locals] at ns
      exact ends D s3.heap.objs.size s6 m H5 I7 after ns (I3.fpOk (Nat.le_refl _) freeC)
    · refine thnF (T.item (X.blk s3 H3 scope ce fp) rfl rfl rfl calm i [] s5 _ H5 (fun _ _ => False) I5 (still I5 nofp5) stands5 go) fun r s6 hr => ?_
      obtain ⟨u, rfl, h6⟩ := hr
      refine thnF h6 fun _ s7 h7 => ?_
      obtain ⟨x, H7, I7, rx, y7, stands7, nofp7⟩ := h7
      have I7' := I7.pinned (still I7 nofp7) (T.obj _ _ stands7)
      refine thnF (pG.run _ s7 _ H7 x u _ I7' rx (step x H7 y7)) fun _ s8 h8 => ?_
      obtain ⟨σ8, H8, I8, wiped, q8⟩ := h8
      have finish : ∀ {s' : Shared} {H' : Hp}, Inv (X.blk s3 H3 scope ce fp) ([] ++ pinsAt fp s7.heap) σ8 H' s' → Nx H' →
          ∃ m, m < n ∧ ∃ i H', Inv (X.blk s3 H3 scope ce fp) [] (wipe σ (own.map (·.2))) H' s' ∧ tn i s'.heap ∧ (∀ b ∈ fp, H' b = none) ∧ W i m H' := by
        intro s' H' I' hN
        obtain ⟨m', lt, w'⟩ := toNext H' hN
        have pinned : ∀ b ∈ fp, ∀ o, s7.heap.get? b = some o → s'.heap.get? b = some o ∧ H' b = none := fun b hb o ho =>
          ⟨(I'.pin (b, o) (List.mem_append_right _ (List.mem_append_right _ (mem_pinsAt hb ho)))).1, (I'.pin (b, o) (List.mem_append_right _ (List.mem_append_right _ (mem_pinsAt hb ho)))).2.1⟩
        have len : (wipe σ (own.map (·.2))).length = σ8.length := by
          rw [← wiped, wipe_length]
        refine ⟨m', lt, i + 1, H', (I'.unpinned (pins := [])).weak len (fun j v ev => ?_), T.keep _ _ _ stands7 fun b hb o ho => (pinned b hb o ho).1, fun b hb => ?_, w'⟩
        · rw [← wiped] at ev
          exact (wipe_some ev).1
        · obtain ⟨o, ho, _⟩ := T.obj _ _ stands7 b hb
          exact (pinned b hb o ho).2
      have pT : PTs (X.blk s3 H3 scope ce fp) [] _ := pts_nil
      refine thnF (pT.run _ s8 σ8 H8 (fun b H' => b = true ∧ H' = H8) I8 ⟨rfl, rfl⟩) fun b s9 h9 => ?_
      obtain ⟨H9, I9, rfl, rfl⟩ := h9
      simp only [if_true]
      refine thnF (pK.run _ s9 σ8 _ _ I9 q8) fun z s10 h10 => ?_
      obtain ⟨yk, H10, I10, rk, q10⟩ := h10
      refine thnF (pV.run _ s10 σ8 H10 _ I10 q10) fun z2 s11 h11 => ?_
      obtain ⟨yv, H11, I11, rv, kvs, k, b, ek, hD11, hb11, lt11, nx⟩ := h11
      subst ek
      cases (show z = Value.ref b from rk)
      exact dt_set (X := X.blk s3 H3 scope ce fp) hu I11 hD11 hb11 rv lt11 fun s12 I12 => finish I12 nx
  exact codeAny_compStart_dict loop (T.self X.A 0 _ _ _ stands4 loop)
theorem pe_dcT {ke ve tg iter : Expr} {scope : Scope} {own : List (Str × Nat)} {pos : Pos} {wi : TI} {g : TG} {tk tv : TE} (hu : X.A.units < cLine) (calm : X.calm = true) (nd : X.N.Nodup) (walks : PI X tg iter wi)
    (blk : BlkOk X.N X.env.scope scope own) (target : BlkAll X scope fun Y => PG Y tg g) (keys : BlkAll X scope fun Y => PE Y ke tk) (vals : BlkAll X scope fun Y => PE Y ve tv)
    (plainIt : ∀ x, foldedSetIterable iter X.env x = pure x := by intro _; rfl) : PE X (.DictComp ke ve [⟨tg, iter, [], 0⟩] scope pos) (tDcT wi g tk tv (own.map (·.2))) := by
  constructor
  intro pins s σ H Q I want
  rw [arm_eval_DictComp]
  refine dcT_core hu calm nd I walks blk target keys vals plainIt want fun D C s' m H' I' q ns f => ⟨m, ns, fun h'' sb => ?_⟩
  obtain ⟨f0, f1, f2, f3, f4, f5⟩ := f
  exact ⟨.ref D, H', I'.turned (t' := s'.toks) (fun b o hb e => (sb.2 b hb).trans e) f0 f1 f3 f4 f5, rfl, q⟩
end
end L2.K23
set_option Elab.async false
set_option linter.all false
set_option maxRecDepth 100000
set_option maxHeartbeats 4000000
/-! Rules of my own over the hand layer: tuple[::-1]; tuple * 0 and tuple * 1. -/
namespace L2.K23
open PySem PySem.Spec PyProof.Rows HT
/-! ### t[::-1] -/
section
variable {prog : Program} {w : World} {A : Around} {E : Value → Shared → Prop} {s : Shared}
theorem back_places (n : Nat) : Builtin.Slice.slicePlaces ((n : Int) - 1) (-1) (-1) = n := by
  unfold Builtin.Slice.slicePlaces
  rw [if_neg (by decide)]
  by_cases h : (n : Int) - 1 > -1
  · rw [if_pos h]
    have e : ((n : Int) - 1 - -1 - 1) / - -1 = (n : Int) - 1 := by
      have : (- -1 : Int) = 1 := by decide
      rw [this, Int.ediv_one]
      omega
    rw [e]
    omega
  · rw [if_neg h]
    omega
theorem back_pick (xs : Array Value) : (List.range xs.size).filterMap (fun (k : Nat) => xs[((xs.size : Int) - 1 + (k : Int) * -1).toNat]?) = xs.toList.reverse := by
  have e : ∀ k ∈ List.range xs.size, xs[((xs.size : Int) - 1 + (k : Int) * -1).toNat]? = xs.toList.reverse[k]? := fun k hk => by
    have lt : k < xs.size := List.mem_range.mp hk
    have lt2 : k < xs.toList.reverse.length := by simpa using lt
    have ix : ((xs.size : Int) - 1 + (k : Int) * -1).toNat = xs.size - 1 - k := by omega
    rw [ix, List.getElem?_reverse (by simpa using lt), Array.length_toList, Array.getElem?_toList]
  have f : ∀ l : List Nat, (∀ k ∈ l, k ∈ List.range xs.size) → l.filterMap (fun (k : Nat) => xs[((xs.size : Int) - 1 + (k : Int) * -1).toNat]?) = l.filterMap fun k => xs.toList.reverse[k]? := fun l => by
    induction l with
    | nil => intro _; rfl
    | cons k l ih =>
      intro h
      rw [List.filterMap_cons, List.filterMap_cons, e k (h k (List.mem_cons_self ..)), ih fun j hj => h j (List.mem_cons_of_mem _ hj)]
  rw [f _ fun _ h => h]
  have g : ∀ (l : List Value), (List.range l.length).filterMap (fun k => l[k]?) = l := fun l => by
    induction l with
    | nil => rfl
    | cons x l ih =>
      rw [List.length_cons, List.range_succ_eq_map, List.filterMap_cons, List.filterMap_map]
      show x :: (List.range l.length).filterMap (fun k => l[k]?) = x :: l
      rw [ih]
  have := g xs.toList.reverse
  rwa [List.length_reverse, Array.length_toList] at this
theorem back_applied {sl : Addr} {n : Nat} {t : Tok} {Q : Int × Int × Nat → Shared → Prop} (hs : s.heap.IsSliceOf sl .none .none (.int (-1) t)) (h : Q ((n : Int) - 1, -1, n) s) : wpAny (model prog w) A (Builtin.Slice.sliceApplied (.ref sl) (pure (n : Int))) Q E s := by
  obtain ⟨os, hos, hcs, hds⟩ := id hs
  unfold Builtin.Slice.sliceApplied Builtin.Slice.sliceFields
  refine wpAny_bind (wpAny_bind (wpAny_field hos hds (x := .none) rfl (wpAny_bind (wpAny_field hos hds (x := .none) rfl (wpAny_bind (wpAny_field hos hds (x := .int (-1) t) rfl (wpAny_pure ?_)))))))
  refine wpAny_bind (slicePart_int ?_)
  show wpAny _ _ (if ((-1 : Int) == 0) = true then _ else _) _ _ s
  rw [if_neg (by decide)]
  refine wpAny_bind (slicePart_none (wpAny_bind (slicePart_none (wpAny_bind (wpAny_pure ?_)))))
  show wpAny _ _ (pure ((n : Int) - 1, (-1 : Int), Builtin.Slice.slicePlaces ((n : Int) - 1) (-1) (-1))) _ _ s
  rw [back_places]
  exact wpAny_pure h
theorem getItem_tuple_back {t sl : Addr} {items : Array Value} {tk : Tok} {Q : Value → Shared → Prop} (ht : IsTup s.heap t items) (hs : s.heap.IsSliceOf sl .none .none (.int (-1) tk)) (fits : items.size ≤ sizeLine)
    (h : Q (.ref s.heap.objs.size) { s with heap := s.heap.push { cls := .type "tuple", data := .seq items.toList.reverse.toArray } }) : wpAny (model prog w) A (getItem (.ref t) (.ref sl)) Q E s := by
  have fits2 : sizeOk (.seq items.toList.reverse.toArray) := by
    show items.toList.reverse.toArray.size ≤ sizeLine
    simpa using fits
  obtain ⟨os, hos, hcs, hds⟩ := id hs
  have isSl : s.TypeIs (.ref sl) "slice" := ⟨os, hos, hcs⟩
  unfold getItem
  try with_reducible refine wpAny_holding ?_
  first | refine wpAny_bind (wpAny_pure ?_) | skip
  refine wpAny_bind (wpAny_sequenceKey ht.typeIs (by decide) ?_)
  refine wpAny_bind (wpAny_callSpecial?_slot (name := Str.ofString "__getitem__") ht.typeIs PyProof.Rows.slot_tuple_getitem (wpAny_call_entry PyProof.Rows.slot_tuple_getitem ht.typeIs entry_tuple_getitem ?_ (args_tuple_getitem _ _)))
  show wpAny _ _ (Builtin.Tuple.tupleItemsOf (.ref t) >>= _) _ _ s
  refine wpAny_bind (tupleItemsOf_ ht ?_)
  refine wpAny_bind (wpAny_typeOf isSl ?_)
  rw [if_pos (by decide)]
  refine wpAny_bind (back_applied hs ?_)
  show wpAny _ _ (if ((items.size : Int) - 1 == 0 && (-1 : Int) == 1 && items.size == items.size) = true then _ else _) _ _ s
  rw [if_neg (by simp), back_pick]
  first
    | exact wpAny_bind (m := Builtin.Tuple.tupleExact _) (wpAny_newObj_type (wpAny_pure ⟨_, rfl, wpAny_pure h⟩) fits2)
    | exact wpAny_bind (m := Builtin.Tuple.tupleExact _) (wpAny_newObj_type (wpAny_bind (wpAny_pure (wpAny_pure ⟨_, rfl, wpAny_pure h⟩))) fits2)
    | exact wpAny_bind (wpAny_bind (m := Builtin.Tuple.tupleExact _) (wpAny_newObj_type (wpAny_pure (wpAny_pure ⟨_, rfl, wpAny_pure h⟩)) fits2))
    | exact wpAny_bind (wpAny_bind (m := Builtin.Tuple.tupleExact _) (wpAny_newObj_type (wpAny_pure ⟨_, rfl, wpAny_pure h⟩) fits2))
end
section
variable {X : Cx}
/-- t[::-1] of a tuple: a new tuple -/
def tRevT (K : PySem.W.Frag) (te : TE) : TE := fun σ H Q => te σ H fun x H1 => ∃ a xs, x = .ref a ∧ SqT K H1 a xs ∧ ∀ p, H1 p = none → Q (.ref p) (upd H1 p (.tup xs.reverse))
theorem pe_revT {e : Expr} {te : TE} {k : Nat} {p1 p2 p3 pos : Pos} (he : PE X e te) : PE X (.Subscript e (.Slice none none (some (.UnaryOp .USub (.Constant (.int 1) k p1) p2)) p3) pos) (tRevT X.K te) := by
  constructor
  intro pins s σ H Q I h
  refine Subscript_ (thn (he.run pins s σ H _ I h) fun v s1 hv => ?_)
  obtain ⟨x, H1, I1, r1, a, xs, rfl, hx, q⟩ := hv
  cases (show v = Value.ref a from r1)
  have stepPart : PO X (some (.UnaryOp .USub (.Constant (.int 1) k p1) p2)) (tPart (tUn (rU fun i => .int (-i)) (tC (.int 1)))) := po_some (pe_un un_neg pe_int)
  refine wpAny_Slice (thn (po_none.run pins s1 σ H1 (fun o H2 => o = none ∧ H2 = H1) I1 ⟨rfl, rfl⟩) fun vl s2 hl => ?_)
  obtain ⟨l, H2, I2, pl, rfl, rfl⟩ := hl
  refine thn (po_none.run pins s2 σ _ (fun o H3 => o = none ∧ H3 = _) I2 ⟨rfl, rfl⟩) fun vu s3 hu => ?_
  obtain ⟨u, H3, I3, pu, rfl, rfl⟩ := hu
  refine thn (stepPart.run pins s3 σ _ (fun o H4 => o = some (-1) ∧ H4 = _) I3 ⟨1, rfl, -1, rfl, rfl, rfl⟩) fun vs s4 hp => ?_
  obtain ⟨o, H4, I4, ps, rfl, rfl⟩ := hp
  have I5 : Inv X pins σ _ { s4 with heap := s4.heap.push { cls := .type "slice", data := .fields #[vl, vu, vs] } } := I4.kept (t' := s4.toks) fun b ob q => Heap.get?_push_of_some _ q
  obtain ⟨its, r, ht, hz⟩ := I5.tuple hx
  have len := r.length
  cases pl
  cases pu
  cases ps
  rename_i tk
  refine tail_any (ops := [.ref a, .ref s4.heap.objs.size]) ht.typeIs PyProof.Rows.slot_tuple_getitem.lookup ?_ (by with_unfolding_all rfl)
  refine getItem_tuple_back ht (Heap.IsSliceOf.new _ _ _ _) (by rw [List.size_toArray]; omega) ?_
  refine ⟨.ref _, _, I5.laid (t' := s4.toks) (o := .tup xs.reverse) (fun b ob q => Heap.get?_push_of_some _ q) (Nat.le_refl _) ?_, rfl, q _ (I5.hok.fresh (Nat.le_refl _))⟩
  refine ⟨by rw [List.length_reverse]; exact hz, _, r.reverse, ?_⟩
  exact IsTup.new _ _
end
/-! ### t * 0, t * 1 -/
theorem mul_none (l : Addr) (items : Array Value) (n : Nat) (dd : Option Addr) (sl : Array (Option Value)) (u : Tok) (c1 : (items.isEmpty || (0 : Int) == 1) = false) :
    Meets (Builtin.«tuple.__mul__» ⟨[.ref l, .int 0 u], []⟩) (fun _ R s => s.heap.get? l = some { cls := .type "tuple", dict := dd, data := .seq items n, slots := sl } ∧
      R (.ok (.ret (Value.ref s.heap.objs.size))) { s with heap := s.heap.push { cls := Value.type "tuple", data := Data.seq #[] }, toks := s.toks }) :=
  .of_wp fun prog w A R s h => by
    obtain ⟨hp, g, d, tk, os⟩ := s
    obtain ⟨hl, h⟩ := h
    have f1 := AutoSeq1.idx_int
    wp_walk using wpAny_loadPart' hl
    repeat (first
      | (refine wpAny_ite_false (decide_eq_false (by rw [c1]; exact Bool.false_ne_true)) ?_; wp_walk using wpAny_loadPart' hl)
      | (refine wpAny_ite_false (decide_eq_false (by decide)) ?_; wp_walk using wpAny_loadPart' hl)
      | (refine wpAny_ite_true (decide_eq_true (by rfl)) ?_; wp_walk using wpAny_loadPart' hl))
    exact ⟨_, rfl, h⟩
theorem mul_one (l : Addr) (items : Array Value) (n : Nat) (dd : Option Addr) (sl : Array (Option Value)) (u : Tok) (c1 : (items.isEmpty || (1 : Int) == 1) = true) :
    Meets (Builtin.«tuple.__mul__» ⟨[.ref l, .int 1 u], []⟩) (fun _ R s => s.heap.get? l = some { cls := .type "tuple", dict := dd, data := .seq items n, slots := sl } ∧ R (.ok (.ret (Value.ref l))) { s with toks := s.toks }) :=
  .of_wp fun prog w A R s h => by
    obtain ⟨hp, g, d, tk, os⟩ := s
    obtain ⟨hl, h⟩ := h
    have f1 := AutoSeq1.idx_int
    wp_walk using wpAny_loadPart' hl
    exact ⟨_, rfl, h⟩
/-- (z,) * k, 0 ≤ k: no item: a new empty tuple; once: the same; else a new one -/
def rRepZ (K : PySem.W.Frag) : R2 := fun x y H Q => ∃ (l : Addr) (k : Nat) (z : V), x = .ref l ∧ y = .int (k : Int) ∧ H l = some (.tup [z]) ∧ k ≤ 1000 ∧
  (k = 1 → Q (.ref l) H) ∧ (k ≠ 1 → ∀ p, H p = none → Q (.ref p) (upd H p (.tup (List.replicate k z))))
section
variable {X : Cx}
theorem op_repZ : OpR X (binaryOp .Mult) (rRepZ X.K) := by
  intro pins s σ H x y v u Q I rx ry h
  obtain ⟨l, k, z, rfl, rfl, hT, h2, q1, q2⟩ := h
  by_cases hk : 2 ≤ k
  · refine op_repT pins s σ H _ _ v u Q I rx ry ⟨l, (k : Int), [z], rfl, rfl, .inl (.inl hT), by simp, by omega, by omega, by simp, fun p hp => ?_⟩
    have e : (List.replicate ((k : Int)).toNat [z]).flatten = List.replicate k z := by
      rw [Int.toNat_natCast]
      clear hk h2 q1 q2 ry
      induction k with
      | zero => rfl
      | succ k ih =>
        rw [List.replicate_succ, List.flatten_cons, ih]
        rfl
    rw [e]
    exact q2 (by omega) p hp
  · cases rx
    obtain ⟨t, rfl⟩ := ry
    obtain ⟨its, r, ⟨⟨cls, dd, data, sl⟩, ho, hc, n, hd⟩, hs⟩ := I.tuple (show SqT X.K H l [z] from .inl (.inl hT))
    subst hc hd
    have hi : its.toArray.isEmpty = false := by
      cases its with
      | nil => cases r
      | cons a b => rfl
    have road : ∀ {R : Value → Shared → Prop}, wpAny (model X.prog X.w) X.A (call (.builtin "tuple.__mul__") [.ref l, .int (k : Int) t]) R X.xe s → wpAny (model X.prog X.w) X.A (binaryOp .Mult (.ref l) (.int (k : Int) t)) R X.xe s := fun {R} hc =>
      wpAny_binaryOp_repeat_ref (T := "tuple") (U := "int") (by decide) ⟨_, ho, rfl⟩ (fun s' => typeIs_int s' k t) noFill_tuple_mul F.fills_int_mul F.slot_int_rmul repeat_tuple F.slot_int_index.lookup
        (call_meets F.slot_int_rmul (typeIs_int s k t) F.entry_int_rmul (F.args_int_rmul_2 _ _) (int_rmul_tuple k t l its.toArray n dd sl) ⟨ho, rfl, ⟨_, ho, rfl⟩, hc⟩)
    rcases (show k = 0 ∨ k = 1 by omega) with rfl | rfl
    · refine road (call_meets F.slot_tuple_mul ⟨_, ho, rfl⟩ F.entry_tuple_mul (F.args_tuple_mul_2 _ _) (mul_none l its.toArray n dd sl t (by rw [hi]; rfl)) ⟨ho, ?_⟩)
      refine ⟨.ref s.heap.objs.size, _, I.laid (t' := s.toks) (o := .tup []) (fun b ob q => Heap.get?_push_of_some _ q) (Nat.le_refl _) ?_, rfl, q2 (by decide) _ (I.hok.fresh (Nat.le_refl _))⟩
      exact ⟨Nat.zero_le _, [], .nil, IsTup.new _ _⟩
    · exact road (call_meets F.slot_tuple_mul ⟨_, ho, rfl⟩ F.entry_tuple_mul (F.args_tuple_mul_2 _ _) (mul_one l its.toArray n dd sl t (by rw [hi]; rfl)) ⟨ho, .ref l, H, I.tok _, rfl, q1 rfl⟩)
end
end L2.K23
set_option Elab.async false
set_option linter.all false
set_option maxRecDepth 100000
set_option maxHeartbeats 4000000
/-! Rules of my own over the hand layer: min and max of a tuple, enumerate of a tuple, the sum of a dict's values. -/
namespace L2.K23
open PySem PySem.Spec PyProof.Rows
/-! ### min(t), max(t), t a tuple of ints: one of its items -/
section
variable {prog : Program} {w : World} {A : Around} {E : Value → Shared → Prop} {s : Shared} {a : Addr} {its : List Value} {ns : List Int} {Q : Value → Shared → Prop}
theorem vals_nth (r : Vals (ns.map V.int) its) {i : Nat} {v : Value} (h : its.toArray[i]? = some v) : ∃ n t, n ∈ ns ∧ ns[i]? = some n ∧ v = .int n t := by
  have h' : its[i]? = some v := by simpa using h
  have len := r.length
  rw [List.length_map] at len
  have lt : i < its.length := (List.getElem?_eq_some_iff.mp h').1
  have lt2 : i < ns.length := by omega
  have g : (ns.map V.int)[i]? = some (.int ns[i]) := by
    rw [List.getElem?_map, List.getElem?_eq_getElem lt2]
    rfl
  obtain ⟨u, hu, ru⟩ := r.get g
  rw [h'] at hu
  cases hu
  obtain ⟨t, rfl⟩ := ru
  exact ⟨ns[i], t, List.getElem_mem _, List.getElem?_eq_getElem lt2, rfl⟩
theorem val_of (r : Vals (ns.map V.int) its) (i : Nat) (v : Value) (h : its.toArray[i]? = some v) : ∃ t, v = .int (ns.getD i 0) t := by
  obtain ⟨n, t, _, g, rfl⟩ := vals_nth r h
  refine ⟨t, ?_⟩
  rw [List.getD_eq_getElem?_getD, g]
  rfl
theorem iter_tup (ht : IsTup s.heap a its.toArray) (h : ∀ s₂ : Shared, s₂ = { s with heap := s.heap.push { cls := .type "tuple_iterator", data := .fields #[.ref a, .int 0 0] } } →
    (s₂.heap.IsTupleIter s.heap.objs.size a 0 ∧ s₂.heap.IsTuple a its.toArray) → (∀ b ∈ [s.heap.objs.size, a], b < s₂.heap.objs.size) → a ≠ s.heap.objs.size → Q (.ref s.heap.objs.size) s₂) : wpAny (model prog w) A (pyIter (.ref a)) Q E s := by
  have lt := ht.lt
  refine wpAny_pyIter_tuple ht (h _ rfl ⟨⟨_, Heap.get?_push_size _ rfl, rfl, rfl⟩, ht.keeps fun b o e => Heap.get?_push_of_some _ e⟩ (fun b hb => ?_) (Nat.ne_of_lt lt))
  show b < (s.heap.push _).objs.size
  rw [Heap.size_push]
  rcases (show b = s.heap.objs.size ∨ b = a by simpa using hb) with rfl | rfl
  · exact Nat.lt_succ_self _
  · exact Nat.lt_succ_of_lt lt
theorem kept_it {h' : Heap} (hk : ∀ b o, b ∉ [s.heap.objs.size] → (s.heap.push { cls := .type "tuple_iterator", data := .fields #[.ref a, .int 0 0] }).get? b = some o → h'.get? b = some o) : ∀ b o, s.heap.get? b = some o → h'.get? b = some o := by
  intro b o e
  refine hk b o (fun hm => ?_) (Heap.get?_push_of_some _ e)
  have e1 : b = s.heap.objs.size := by simpa using hm
  exact Nat.lt_irrefl _ (e1 ▸ Heap.lt_size e)
theorem max_tup (hh : A.handled = none) (ht : IsTup s.heap a its.toArray) (r : Vals (ns.map V.int) its) (pos : 0 < ns.length)
    (h : ∀ h' tk m t, (∀ b o, s.heap.get? b = some o → h'.get? b = some o) → m ∈ ns → Q (.int m t) { s with heap := h', toks := tk }) : wpAny (model prog w) A (call (.builtin "max") [.ref a]) Q E s := by
  have len := r.length
  rw [List.length_map] at len
  refine call_max_walk (iter_tup ht fun s₂ e st hfp hne => ?_)
  subst e
  refine ⟨_, _, _, _, _, _, _, rfl, Walks.tuple (A := A.in1) hh _ a hne its.toArray, st, hfp, by rw [List.size_toArray]; omega, CmpOf.ints_gt (fun i => ns.getD i 0) (val_of r), fun v h' tk hP hk => ?_⟩
  obtain ⟨n, t, hm, _, rfl⟩ := vals_nth r hP
  exact h h' tk n t (kept_it hk) hm
theorem min_tup (hh : A.handled = none) (ht : IsTup s.heap a its.toArray) (r : Vals (ns.map V.int) its) (pos : 0 < ns.length)
    (h : ∀ h' tk m t, (∀ b o, s.heap.get? b = some o → h'.get? b = some o) → m ∈ ns → Q (.int m t) { s with heap := h', toks := tk }) : wpAny (model prog w) A (call (.builtin "min") [.ref a]) Q E s := by
  have len := r.length
  rw [List.length_map] at len
  refine call_min_walk (iter_tup ht fun s₂ e st hfp hne => ?_)
  subst e
  refine ⟨_, _, _, _, _, _, _, rfl, Walks.tuple (A := A.in1) hh _ a hne its.toArray, st, hfp, by rw [List.size_toArray]; omega, CmpOf.ints_lt (fun i => ns.getD i 0) (val_of r), fun v h' tk hP hk => ?_⟩
  obtain ⟨n, t, hm, _, rfl⟩ := vals_nth r hP
  exact h h' tk n t (kept_it hk) hm
end
def rBestT (K : PySem.W.Frag) : List V → Hp → VK → Prop := fun vs H Q => ∃ (a : Addr) (ns : List Int), vs = [V.ref a] ∧ SqT K H a (ns.map V.int) ∧ 0 < ns.length ∧ ∀ m, m ∈ ns → Q (.int m) H
section
variable {X : Cx}
theorem cr_maxT (hc : X.calm = true) : CallR X (.builtin "max") (rBestT X.K) := by
  intro pins s σ H vs us Q I r h
  obtain ⟨a, ns, rfl, hs, pos, q⟩ := h
  obtain ⟨its, rv, ht, _⟩ := I.tuple hs
  rw [Vals.ref1 r]
  exact max_tup (I.ok.hd hc) ht rv pos fun h' tk m t hk hm => ⟨.int m, H, I.kept hk, ⟨_, rfl⟩, q m hm⟩
theorem cr_minT (hc : X.calm = true) : CallR X (.builtin "min") (rBestT X.K) := by
  intro pins s σ H vs us Q I r h
  obtain ⟨a, ns, rfl, hs, pos, q⟩ := h
  obtain ⟨its, rv, ht, _⟩ := I.tuple hs
  rw [Vals.ref1 r]
  exact min_tup (I.ok.hd hc) ht rv pos fun h' tk m t hk hm => ⟨.int m, H, I.kept hk, ⟨_, rfl⟩, q m hm⟩
end
/-! ### enumerate(t), t a tuple -/
section
variable {prog : Program} {w : World} {A : Around} {E : Value → Shared → Prop} {s : Shared}
theorem draws_tup (hh : A.handled = none) (it a : Addr) (ne : a ≠ it) (items : Array Value) :
    Draws prog w A it [it, a] items.size (fun i v => items[i]? = some v) (fun i h => h.IsTupleIter it a i ∧ h.IsTuple a items) where
  live := fun i h st => let ⟨⟨o, ho, _⟩, _⟩ := st; ⟨o, ho⟩
  frame := fun i h h' st k => ⟨st.1.at fun o e => k it (by simp) o e, let ⟨o, ho, r⟩ := st.2; ⟨o, k a (by simp) o ho, r⟩⟩
  item := fun i s Q E lt st q => RZ.nextOf_tuple_item st.1 st.2 (Array.getElem?_eq_getElem lt) fun h' it' sb =>
    q _ h' s.toks (Array.getElem?_eq_getElem lt) ⟨it', st.2.extBut sb.extBut ne⟩ sb
  done := fun s Q E st q => RZ.nextOf_tuple_end hh st.1 st.2 (Array.getElem?_eq_none (Nat.le_refl _)) fun h' e sb he => q h' e sb he
theorem meets_enumT (a : Addr) (items : Array Value) (n : Nat) (dct : Option Addr) (sl : Array (Option Value)) :
    Meets (Builtin.«enumerate.__new__» ⟨[.type "enumerate", .ref a], []⟩) (fun _ R s => s.heap.get? a = some { cls := .type "tuple", dict := dct, data := .seq items n, slots := sl } ∧
      R (.ok (.ret (.ref (s.heap.push { cls := .type "tuple_iterator", data := .fields #[.ref a, .int 0 0] }).objs.size)))
        { s with heap := (s.heap.push { cls := .type "tuple_iterator", data := .fields #[.ref a, .int 0 0] }).push { cls := .type "enumerate", data := .fields #[.none, .bool false, .ref s.heap.objs.size, rawInt 0, .none, .none] } }) :=
  .of_wp fun prog w A R s h => by
    obtain ⟨hp, g, d, tk, os⟩ := s
    obtain ⟨hl, h⟩ := h
    have hsub := sub_enumerate
    have hT : Heap.IsTuple (Shared.heap ⟨hp, g, d, tk, os⟩) a items := ⟨_, hl, rfl, n, rfl⟩
    wp_walk using wpAny_loadPart' hl
    refine wpAny_stack_any fun st => wpAny_pure ?_
    split
    · rename_i c _ _ _ _ _
      cases (c == Value.type "enumerate")
      · wp_walk using wpAny_loadPart' hl, wpAny_pyIter_tuple hT
        exact ⟨_, rfl, h⟩
      · wp_walk using wpAny_loadPart' hl, wpAny_pyIter_tuple hT
        exact ⟨_, rfl, h⟩
    · wp_walk using wpAny_loadPart' hl, wpAny_pyIter_tuple hT
      exact ⟨_, rfl, h⟩
theorem call_enumT {a : Addr} {items : Array Value} {Q : Value → Shared → Prop} (ht : IsTup s.heap a items)
    (h : ∀ h', IsEnum h' (s.heap.objs.size + 1) s.heap.objs.size 0 .none → h'.IsTupleIter s.heap.objs.size a 0 → (∀ b o, s.heap.get? b = some o → h'.get? b = some o) → Q (.ref (s.heap.objs.size + 1)) { s with heap := h' }) :
    wpAny (model prog w) A (call (.type "enumerate") [.ref a]) Q E s := by
  obtain ⟨⟨c, dct, dt, sl⟩, hl, hc, n, hd⟩ := ht
  subst hc hd
  refine callType_new F.called_enumerate (by decide) (F.typeCall_enumerate_1 _) (F.newCall_enumerate_1 _) (fun obj => F.args_object_init_2 obj _) F.entry_enumerate_new (meets_enumT a items n dct sl) ⟨hl, ?_⟩
  have hz : (s.heap.push { cls := .type "tuple_iterator", data := .fields #[.ref a, .int 0 0] }).objs.size = s.heap.objs.size + 1 := Heap.size_push ..
  show _ ∧ _
  rw [hz]
  have he := Heap.get?_push_size (s.heap.push { cls := .type "tuple_iterator", data := .fields #[.ref a, .int 0 0] }) (o := { cls := .type "enumerate", data := .fields #[.none, .bool false, .ref s.heap.objs.size, rawInt 0, .none, .none] }) rfl
  rw [hz] at he
  exact ⟨⟨_, he, rfl⟩, h _ he ⟨_, Heap.get?_push_of_some _ (Heap.get?_push_size _ rfl), rfl, rfl⟩ fun b o x => Heap.get?_push_of_some _ (Heap.get?_push_of_some _ x)⟩
end
/-- the tuple at a, its items with their places in new pairs -/
def IteT (K : PySem.W.Frag) (a : Addr) : It :=
  ⟨fun i H => ∃ (xs : List V) (x : V), SqT K H a xs ∧ xs[i]? = some x, fun i H v H' => ∃ T x, v = .ref T ∧ H T = none ∧ H' = upd H T (.tup [.int (i : Nat), x]) ∧ ∀ xs, SqT K H a xs → xs[i]? = some x,
    fun i H => ∃ xs : List V, SqT K H a xs ∧ xs.length ≤ i⟩
theorem turn_enumT {P : Program} {w : World} {K : PySem.W.Frag} {elts : List Expr} {kk : Nat} {tpos : Pos} (a e it : Addr) :
    Turn P w K (.Tuple elts kk tpos) (IteT K a) [e, it] e (fun i h => (∃ old, IsEnum h e it ((i : Nat) : Int) old) ∧ h.IsTupleIter it a i ∧ e ≠ it) where
  mem := by simp
  obj := fun i h st b hb => by
    obtain ⟨⟨old, he⟩, ⟨o, ho, _, hd⟩, _⟩ := st
    rcases (show b = e ∨ b = it by simpa using hb) with rfl | rfl
    · exact ⟨_, he, fun v q => nomatch q⟩
    · exact ⟨o, ho, fun v q => by rw [hd] at q; cases q⟩
  keep := fun i h h' st k => let ⟨⟨old, he⟩, hi, ne⟩ := st; ⟨⟨old, k e (by simp) _ he⟩, hi.at fun o q => k it (by simp) o q, ne⟩
  item := by
    intro X hP hw hK hc i pins s σ H E I fps st go
    subst hP hw hK
    obtain ⟨⟨old, he⟩, hit, ne⟩ := st
    obtain ⟨xs, x, hq, hx⟩ := go
    obtain ⟨its, rv, p, hz⟩ := I.tuple hq
    obtain ⟨u, hu, ru⟩ := rv.get hx
    have lte : e < s.heap.objs.size := Heap.lt_size he
    have lti : it < s.heap.objs.size := let ⟨_, q, _⟩ := hit; Heap.lt_size q
    have ai : a ≠ it := by
      rintro rfl
      obtain ⟨o1, h1, c1, _⟩ := p
      obtain ⟨o2, h2, c2, _⟩ := hit
      rw [h1] at h2
      cases h2
      rw [c1] at c2
      exact absurd c2 (by decide)
    have ae : a ≠ e := by
      rintro rfl
      obtain ⟨o1, h1, c1, _⟩ := p
      rw [he] at h1
      cases h1
      exact absurd (show Value.type "enumerate" = Value.type "tuple" from c1) (by decide)
    have hlt : i < its.toArray.size := by
      have : i < its.length := (List.getElem?_eq_some_iff.mp hu).1
      simpa using this
    refine wpAny_pyNext_enum_itemD (draws_tup (A := X.A.in1) (I.ok.hd hc) it a ai its.toArray) he ⟨hit, p⟩ hlt ne (by simp [ne, ae.symm]) fun v h' tk hv ho st' hT hsz hk => ?_
    have ev : v = u := by
      have : its[i]? = some v := by simpa using hv
      rw [hu] at this
      exact (Option.some.inj this).symm
    subst ev
    refine ⟨_, rfl, wpAny_letOwnedTupleGo_enum (s := { s with heap := h', toks := tk + 1 }) ho fun h'' he' sb => ?_⟩
    have hT2 := (sb.2 _ (Nat.ne_of_gt lte)).trans hT
    have new : ObjOk X.prog X.w (upd H s.heap.objs.size (.tup [.int (i : Nat), x])) h'' s.heap.objs.size (.tup [.int (i : Nat), x]) :=
      ⟨show 2 ≤ sizeLine by decide, [.int i tk, v], .cons ⟨_, rfl⟩ (.cons ru .nil), ⟨_, hT2, rfl, _, rfl⟩⟩
    have I1 : Inv X pins σ (upd H s.heap.objs.size (.tup [.int (i : Nat), x])) { s with heap := h'', toks := tk + 1 } := by
      refine I.turnedNew (ch := [e, it]) (fun b ob hb q => ?_) fps (Nat.le_refl _) new
      have b1 : b ≠ e := fun z => hb (by simp [z])
      have b2 : b ≠ it := fun z => hb (by simp [z])
      exact (sb.2 b b1).trans (hk b ob b1 b2 q)
    refine ⟨.ref s.heap.objs.size, _, I1, rfl, ⟨_, x, rfl, I.hok.fresh (Nat.le_refl _), rfl, fun ys hy => by rw [I.tuple_inj hy hq]; exact hx⟩, ⟨⟨v, ?_⟩, st'.1.at fun o q => (sb.2 it ne.symm).trans q, ne⟩, fun b hb => ?_⟩
    · have e1 : ((i + 1 : Nat) : Int) = (i : Int) + 1 := by omega
      rw [e1]
      exact he'
    · have lt : b < s.heap.objs.size := by
        rcases (show b = e ∨ b = it by simpa using hb) with rfl | rfl
        · exact lte
        · exact lti
      rw [upd_ne (Nat.ne_of_lt lt)]
      exact (fps b hb).1
  done := by
    intro X hP hw hK hc i pins s σ H E I fps st stop
    subst hP hw hK
    obtain ⟨⟨old, he⟩, hit, ne⟩ := st
    obtain ⟨xs, hq, hx⟩ := stop
    obtain ⟨its, rv, p, hz⟩ := I.tuple hq
    obtain ⟨f0, f1, f2, f3, f4, f5⟩ := fps it (by simp)
    have len := rv.length
    have ai : a ≠ it := by
      rintro rfl
      obtain ⟨o1, h1, c1, _⟩ := p
      obtain ⟨o2, h2, c2, _⟩ := hit
      rw [h1] at h2
      cases h2
      rw [c1] at c2
      exact absurd c2 (by decide)
    -- past the end: the items cut
    unfold pyNext
    have hT : s.TypeIs (.ref e) "enumerate" := ⟨_, he, rfl⟩
    refine wpAny_bind (wpAny_attempt (wpAny_callSpecial?_slot (name := Str.ofString "__next__") hT F.slot_enumerate_next
      (wpAny_call_entry F.slot_enumerate_next hT F.entry_enumerate_next ?_ (F.args_enumerate_next_1 _))))
    show wpAny _ _ (field (.ref e) 2 >>= _) _ _ _
    refine wpAny_bind (wpAny_field he rfl (x := .ref it) rfl ?_)
    refine wpAny_bind (RZ.nextOf_tuple_end (A := X.A.in1) (I.ok.hd hc) hit p (Array.getElem?_eq_none (by simp only [List.size_toArray]; omega)) fun h' y he' hx' => ?_)
    obtain ⟨o, ho, hcl⟩ := hx'
    refine wpAny_bind (wpAny_isInstance (T := "StopIteration") (b := true) ⟨o, ho, hcl⟩ isSubtype_stop ?_)
    exact wpAny_pure ⟨rfl, I.turned (t' := s.toks) (fun b o hb q => he' b o hb q) f0 f1 f3 f4 f5⟩
  self := fun A i s Q E st h => let ⟨⟨_, he⟩, _⟩ := st; wpAny_pyIter_enum he h
def iEnumT (K : PySem.W.Frag) (ta : TA) : TI := fun σ H R => ta σ H fun vs H1 => ∃ a xs, vs = [.ref a] ∧ SqT K H1 a xs ∧ R (IteT K a) H1
theorem pi_enumT {X : Cx} {e : Expr} {ta : TA} {p pos tpos : Pos} {elts : List Expr} {kk : Nat} (hg : Gl X "enumerate") (hm : X.mg "enumerate" = none) (ha : PA X [e] ta) (hs : starEach [e] X.env = [(false, eval e X.env)] := by rfl) :
    PI X (.Tuple elts kk tpos) (.Call (.Name "enumerate" p) [e] [] pos) (iEnumT X.K ta) := by
  constructor
  intro pins s σ H R I h
  refine Call_ (ld_blt I hg hm boot_enumerate (PyProof.Rows.callWith_type1 (thn (ha.run pos pins s σ H _ I h) fun us s1 h1 => ?_) hs rfl))
  obtain ⟨vs, H1, I1, r1, a, xs, rfl, hq, q⟩ := h1
  rw [Vals.ref1 r1]
  obtain ⟨its, rv, p', hz⟩ := I1.tuple hq
  refine call_enumT p' fun h' he hit hk => wpAny_pyIter_enum he ?_
  have I2 : Inv X pins σ H1 { s1 with heap := h' } := I1.kept (t' := s1.toks) hk
  refine ⟨s1.heap.objs.size + 1, [s1.heap.objs.size + 1, s1.heap.objs.size], _, _, H1, rfl, I2, turn_enumT a (s1.heap.objs.size + 1) s1.heap.objs.size, ⟨⟨.none, he⟩, hit, Nat.succ_ne_self _⟩, fun b hb => ?_, q⟩
  have le : s1.heap.objs.size ≤ b := by
    rcases (show b = s1.heap.objs.size + 1 ∨ b = s1.heap.objs.size by simpa using hb) with rfl | rfl
    · exact Nat.le_succ _
    · exact Nat.le_refl _
  exact I1.fpOk le (I1.hok.fresh le)
/-! ### sum(d.values()), the keys tuples, the values ints, at most one -/
def valuesO (p d : Addr) : HO := .ext fun h => h.IsValuesView p d
def rValuesT : V → List V → Hp → VK → Prop := fun x xs H Q => ∃ (a : Addr) (kvs : List (List Key × V)), x = .ref a ∧ xs = [] ∧ H a = some (.dT kvs) ∧ ∀ p, H p = none → Q (.ref p) (upd H p (valuesO p a))
def rSumV : List V → Hp → VK → Prop := fun vs H Q => ∃ (p a : Addr) (kvs : List (List Key × V)), vs = [.ref p] ∧ H p = some (valuesO p a) ∧ H a = some (.dT kvs) ∧
  ((kvs = [] ∧ Q (.int 0) H) ∨ ∃ k z, kvs = [(k, .int z)] ∧ Q (.int z) H)
section
variable {X : Cx}
theorem mt_valuesT : MtR X "dict.values" rValuesT := by
  intro pins s σ H x xs v us Q I rx rxs h
  obtain ⟨a, kvs, rfl, rfl, ha, q⟩ := h
  cases rx
  cases rxs
  obtain ⟨_, hd, ys, rel, o, es, ep, ho, hx, hdat, _⟩ := dt_of I.hok ha
  have ty : s.TypeIs (.ref a) "dict" := ⟨o, ho, hx.1⟩
  refine call_meetsIn PySem.F.slot_dict_values ty PySem.F.entry_dict_values (PySem.F.args_dict_values_1 _) (meets_dict_values_raw a hd) ⟨⟨es, ep, o, ho, hx, hdat⟩, ?_⟩
  have hp := Heap.get?_push_size s.heap (o := { cls := .type "dict_values", data := .fields #[.ref a] }) rfl
  have okV : ObjOk X.prog X.w (upd H s.heap.objs.size (valuesO s.heap.objs.size a)) (s.heap.push { cls := .type "dict_values", data := .fields #[.ref a] }) s.heap.objs.size (valuesO s.heap.objs.size a) :=
    ⟨⟨_, hp, rfl, rfl⟩, ⟨_, hp⟩, fun h1 h2 x k => let ⟨o, ho, r⟩ := x; ⟨o, k o ho, r⟩⟩
  exact ⟨.ref s.heap.objs.size, _, I.laid (t' := s.toks) (fun b u e => Heap.get?_push_of_some _ e) (Nat.le_refl _) okV, rfl, q _ (I.hok.fresh (Nat.le_refl _))⟩
theorem cr_sumV (hc : X.calm = true) : CallR X (.builtin "sum") rSumV := by
  intro pins s σ H vs us Q I r h
  obtain ⟨p, a, kvs, rfl, hp, ha, h⟩ := h
  rw [Vals.ref1 r]
  obtain ⟨_, hd, ys, rel, dd⟩ := dt_of I.hok ha
  obtain ⟨es, ep, raw, size, each⟩ := dd.raw
  have view : s.heap.IsValuesView p a := (I.hok p _ hp).1
  obtain ⟨z, hz, hQ⟩ : ∃ z : Int, (∀ kv ∈ kvs, kv.2 = .int z) ∧ (∀ t' tk (h' : Heap), (∀ b o, s.heap.get? b = some o → h'.get? b = some o) → EP X pins σ Q (.int (preSum (fun _ => z) kvs.length) t') { s with heap := h', toks := tk }) := by
    rcases h with ⟨rfl, q⟩ | ⟨k, z, rfl, q⟩
    · exact ⟨0, fun kv h => by simp at h, fun t' tk h' hk => ⟨.int 0, H, I.kept hk, ⟨_, rfl⟩, q⟩⟩
    · refine ⟨z, fun kv h => ?_, fun t' tk h' hk => ⟨.int (preSum (fun _ => z) 1), H, I.kept hk, ⟨_, rfl⟩, ?_⟩⟩
      · have : kv = (k, .int z) := by simpa using h
        rw [this]
      · have : preSum (fun _ => z) 1 = z := by
          show (0 : Int) + z = z
          omega
        rw [this]
        exact q
  have len : ys.length = kvs.length := (Paired.length rel).symm
  refine call_sum_walkAnyS (wpAny_pyIter_values_raw view raw ?_)
  have lta : a < s.heap.objs.size := let ⟨_, e, _⟩ := raw; Heap.lt_size e
  refine ⟨_, _, _, _, _, _, _, fun _ => z, rfl, (Walks.valuesH (A := X.A.in1) (xs := ys) (I.ok.hd hc) s.heap.objs.size a (Nat.ne_of_lt lta) es ep fun i hi => ?_).toS, ⟨⟨_, Heap.get?_push_size _ rfl, rfl, by rfl⟩, raw.at fun o e => Heap.get?_push_of_some _ e⟩, fun b hb => ?_, fun i v hv => ?_, fun s' t' mv => ?_⟩
  · obtain ⟨y, h1, h2, h3, _⟩ := each i hi
    exact ⟨y, h1, h2, h3⟩
  · show b < (s.heap.push _).objs.size
    rw [Heap.size_push]
    rcases (show b = s.heap.objs.size ∨ b = a by simpa using hb) with rfl | rfl
    · exact Nat.lt_succ_self _
    · exact Nat.lt_succ_of_lt lta
  · obtain ⟨y, hy, rfl⟩ := hv
    obtain ⟨kv, hkv, r3⟩ := DX.pget rel hy
    have e := hz kv (List.mem_of_getElem? hkv)
    have r4 := r3.2.2
    rw [e] at r4
    exact r4
  · have hk : ∀ b o, s.heap.get? b = some o → s'.heap.get? b = some o := fun b o e => by
      refine mv.heap b o (fun hI => ?_) (Heap.get?_push_of_some _ e)
      have e1 : b = s.heap.objs.size := by simpa using hI
      exact Nat.lt_irrefl _ (e1 ▸ Heap.lt_size e)
    have n : es.size = kvs.length := size.trans len
    rw [n, Moved.eq_with mv]
    exact hQ t' s'.toks s'.heap hk
end
end L2.K23
set_option Elab.async false
set_option linter.all false
set_option maxRecDepth 100000
set_option maxHeartbeats 4000000
/-! Rules of my own over the hand layer: sorted(xs), the items objects that read as alike data, any length: an arrangement of them. -/
namespace L2.K23
open PySem PySem.Spec PyProof.Rows
section
variable {β : Type} (adr : β → Addr) (enc : β → PyData)
theorem each_refs {bs : List β} : ∀ {us : List Value}, Vals (bs.map fun b => V.ref (adr b)) us → PySem.W.EachIs (fun v (b : β) => v = Value.ref (adr b)) us bs := by
  induction bs with
  | nil =>
    intro us r
    cases r
    exact .nil
  | cons b bs ih =>
    intro us r
    cases r with
    | cons r1 r2 =>
      cases r1
      exact .cons rfl (ih r2)
theorem refs_each {bs : List β} : ∀ {us : List Value}, PySem.W.EachIs (fun v (b : β) => v = Value.ref (adr b)) us bs → Vals (bs.map fun b => V.ref (adr b)) us := by
  induction bs with
  | nil =>
    intro us r
    cases r
    exact .nil
  | cons b bs ih =>
    intro us r
    cases r with
    | cons r1 r2 =>
      subst r1
      exact .cons rfl (ih r2)
theorem each_reads {X : Cx} {pins : List (Addr × Obj)} {σ : St} {H : Hp} {s : Shared} (I : Inv X pins σ H s) : ∀ {bs : List β} {us : List Value}, Vals (bs.map fun b => V.ref (adr b)) us → (∀ b ∈ bs, Dp X.K H (.ref (adr b)) (enc b)) →
    PySem.W.EachIs (fun v (b : β) => ∃ as, Reads s.heap v (enc b) as) us bs := by
  intro bs
  induction bs with
  | nil =>
    intro us r _
    cases r
    exact .nil
  | cons b bs ih =>
    intro us r h
    cases r with
    | cons r1 r2 => exact .cons (Dp.reads I (enc b) _ _ (h b (List.mem_cons_self ..)) r1) (ih r2 fun c hc => h c (List.mem_cons_of_mem _ hc))
/-- sorted(xs): a new list of the same objects in some order -/
def rSortedB (X : Cx) : List V → Hp → VK → Prop := fun vs H Q => ∃ (a : Addr) (bs : List β), vs = [V.ref a] ∧ SqL X.K H a (bs.map fun b => V.ref (adr b)) ∧ (∀ b ∈ bs, Dp X.K H (.ref (adr b)) (enc b)) ∧
  PySem.W.AllAlike (bs.map enc) ∧ PySem.W.Sortable (bs.map enc) ∧ (∀ b ∈ bs, X.A.units + 2 + (enc b).depth < cLine) ∧
  ∀ (bs' : List β) (p : Addr), bs'.Perm bs → H p = none → Q (.ref p) (upd H p (.lst (bs'.map fun b => V.ref (adr b))))
variable {X : Cx}
theorem cr_sortedB : CallR X (.builtin "sorted") (rSortedB adr enc X) := by
  intro pins s σ H vs us Q I r h
  obtain ⟨a, bs, rfl, hs, hd, al, so, un, q⟩ := h
  rw [Vals.ref1 r]
  obtain ⟨its, rv, hl, hz⟩ := I.list hs
  have hz' : bs.length ≤ sizeLine := by
    have : (bs.map fun b => V.ref (adr b)).length ≤ sizeLine := hz
    rwa [List.length_map] at this
  refine PySem.W.sorted_data (enc := enc) hl.isList (each_refs adr rv) (each_reads adr enc I rv hd) al so hz' un fun out len eo => ?_
  have pm : (bs.mergeSort (PySem.W.dataLe false enc)).Perm bs := List.mergeSort_perm _ _
  obtain ⟨n, hn⟩ := sortedAll_at s.heap its out.toArray
  have hp : H (s.heap.objs.size + 1) = none := I.hok.fresh (Nat.le_succ _)
  refine ⟨.ref (s.heap.objs.size + 1), _, I.laid (t' := s.toks) (o := .lst ((bs.mergeSort (PySem.W.dataLe false enc)).map fun b => V.ref (adr b))) (fun b o e => sortedAll_old e) (Nat.le_succ _) ⟨?_, out, n, refs_each adr eo, hn⟩, rfl, q _ _ pm hp⟩
  rw [List.length_map, pm.length_eq]
  exact hz'
end
end L2.K23
set_option Elab.async false
set_option linter.all false
set_option maxRecDepth 100000
set_option maxHeartbeats 4000000
/-! Rules of my own over the hand layer: x in t, x not in t, t a tuple of data of any depth. -/
namespace L2.K23
open PySem PySem.Spec PyProof.Rows
def rInT (K : PySem.W.Frag) (neg : Bool) : R2 := fun x y H Q => ∃ d ds, Dp K H x d ∧ Dp K H y (.tuple ds) ∧ SeqAt.shaped d = true ∧ SeqAt.shaped (.tuple ds) = true ∧ Q (.bl (if neg then !(ds.any fun z => PyData.eqv z d) else ds.any fun z => PyData.eqv z d)) H
section
variable {X : Cx}
theorem op_inT (hu : X.A.units + 65 < cLine) : OpR X (compareOp .In) (rInT X.K false) := by
  intro pins s σ H x y v u Q I rx ry h
  obtain ⟨d, ds, hd, he, sd, se, q⟩ := h
  obtain ⟨as, r1⟩ := Dp.reads I _ x v hd rx
  obtain ⟨bs, r2⟩ := Dp.reads I _ y u he ry
  exact SeqAt.in_tuple_reads r2 r1 (SeqAt.canLay_of_shaped se) (SeqAt.canLay_of_shaped sd) (room_in_shaped sd hu) ⟨.bl _, H, I, rfl, q⟩
theorem op_notInT (hu : X.A.units + 65 < cLine) : OpR X (compareOp .NotIn) (rInT X.K true) := by
  intro pins s σ H x y v u Q I rx ry h
  obtain ⟨d, ds, hd, he, sd, se, q⟩ := h
  obtain ⟨as, r1⟩ := Dp.reads I _ x v hd rx
  obtain ⟨bs, r2⟩ := Dp.reads I _ y u he ry
  exact SeqAt.notIn_tuple_reads r2 r1 (SeqAt.canLay_of_shaped se) (SeqAt.canLay_of_shaped sd) (room_in_shaped sd hu) ⟨.bl _, H, I, rfl, q⟩
end
end L2.K23
set_option Elab.async false
set_option linter.all false
set_option maxRecDepth 100000
set_option maxHeartbeats 4000000
/-! The text by places; the built-ins' names; what stands in the heap. -/
namespace L2.K23
open PySem PySem.Spec PyProof.Rows
open _root_.K23 (T4 Mach Cfg)
def top (i : Nat) : Stmt := PySem.Challenge.pw_stepdown_k23_whole_one_way_to_fill_the_c.main.body.getD i (.Pass ⟨0, 0, 0, 0⟩)
abbrev sIsTile : Stmt := top 13
abbrev sTilesInit : Stmt := inClass (top 14) 0
abbrev sFitting : Stmt := inClass (top 14) 1
abbrev sReaching : Stmt := top 15
abbrev sRowsOn : Stmt := top 16
abbrev sRowsAny : Stmt := top 17
abbrev sNextFloor : Stmt := top 18
abbrev sCheckSize : Stmt := top 22
abbrev sWays : Stmt := top 23
abbrev sFill : Stmt := top 24
abbrev sIsFilling : Stmt := top 25
abbrev sIsInteger : Stmt := top 29
abbrev sTrimmed : Stmt := top 30
abbrev sTapeInit : Stmt := inClass (top 31) 0
abbrev sIsRow : Stmt := inClass (top 31) 1
abbrev sRow : Stmt := inClass (top 31) 3
abbrev sWithoutEnds : Stmt := top 33
abbrev sLetterOf : Stmt := top 35
abbrev sLineOf : Stmt := top 36
abbrev sMeaning : Stmt := top 37
abbrev sStripInit : Stmt := inClass (top 39) 0
abbrev sTilesOf : Stmt := top 41
abbrev sStairInit : Stmt := inClass (top 42) 0
abbrev sDown : Stmt := inClass (top 42) 1
abbrev sUp : Stmt := inClass (top 42) 2
abbrev sFloor : Stmt := inClass (top 42) 5
abbrev sReadOff : Stmt := top 43
abbrev sLawIsInteger : Stmt := top 45
abbrev sLawCell : Stmt := top 46
abbrev sLawMixed : Stmt := top 47
abbrev sLawDigits : Stmt := top 48
abbrev sLawTape : Stmt := top 49
abbrev sLawTrim : Stmt := top 50
abbrev sLawConf : Stmt := top 51
abbrev sLawNext : Stmt := top 52
abbrev sLawLetter : Stmt := top 53
abbrev sLawSteps : Stmt := top 55
abbrev sLawFloors : Stmt := top 56
abbrev sLaw : Stmt := top 57
/-- the built-ins' names are free in the module -/
structure Bi (mg : Str → Option Value) : Prop where
  isinstance : mg "isinstance" = none
  tuple : mg "tuple" = none
  list : mg "list" = none
  int : mg "int" = none
  bool : mg "bool" = none
  len : mg "len" = none
  all : mg "all" = none
  any : mg "any" = none
  min : mg "min" = none
  max : mg "max" = none
  reversed : mg "reversed" = none
  enumerate : mg "enumerate" = none
  sorted : mg "sorted" = none
  sum : mg "sum" = none
  range : mg "range" = none
  zip : mg "zip" = none
/-- the module's constants -/
structure Cs (mg : Str → Option Value) : Prop where
  tiles : ∃ u, mg "MOST_TILES" = some u ∧ RelV (.int 1000) u
  colour : ∃ u, mg "MOST_COLOUR" = some u ∧ RelV (.int 999) u
  floor : ∃ u, mg "MOST_FLOOR" = some u ∧ RelV (.int 60) u
  rows : ∃ u, mg "MOST_ROWS" = some u ∧ RelV (.int 2000) u
  height : ∃ u, mg "MOST_HEIGHT" = some u ∧ RelV (.int 60) u
  floors : ∃ u, mg "MOST_FLOORS" = some u ∧ RelV (.int 2000) u
  marks : ∃ u, mg "MOST_MARKS" = some u ∧ RelV (.int 16) u
  states : ∃ u, mg "MOST_STATES" = some u ∧ RelV (.int 4000) u
/-! ### heaps -/
theorem same_upd {H : Hp} {p : Addr} {o : HO} (h : H p = none) : Same H (upd H p o) := fun b x e => by
  rw [upd_ne (ne_of_none e h)]
  exact e
theorem same_over {H H' : Hp} {p : Addr} {o : HO} (s : Same H H') (h : H p = none) : Same H (upd H' p o) := fun b x e => by
  rw [upd_ne (ne_of_none e h)]
  exact s b x e
/-- a tuple of ints -/
abbrev TupI (H : Hp) (a : Addr) (ns : List Int) : Prop := H a = some (.tup (ns.map V.int))
abbrev LstI (H : Hp) (a : Addr) (ns : List Int) : Prop := H a = some (.lst (ns.map V.int))
theorem TupI.sq {K : PySem.W.Frag} {H : Hp} {a : Addr} {ns : List Int} (h : TupI H a ns) : SqT K H a (ns.map V.int) := .inl (.inl h)
theorem LstI.sq {K : PySem.W.Frag} {H : Hp} {a : Addr} {ns : List Int} (h : LstI H a ns) : SqL K H a (ns.map V.int) := .inl (.inl h)
theorem sqT {K : PySem.W.Frag} {H : Hp} {a : Addr} {xs : List V} (h : H a = some (.tup xs)) : SqT K H a xs := .inl (.inl h)
theorem sqL {K : PySem.W.Frag} {H : Hp} {a : Addr} {xs : List V} (h : H a = some (.lst xs)) : SqL K H a xs := .inl (.inl h)
theorem lt_line {n : Nat} (h : n ≤ 100000) : n < sizeLine := Nat.lt_of_le_of_lt h (by decide)
theorem le_line {n : Nat} (h : n ≤ 100000) : n ≤ sizeLine := Nat.le_of_lt (lt_line h)
theorem ints_at {ns : List Int} {i : Nat} {z : Int} (h : ns[i]? = some z) : atI (ns.map V.int) (i : Int) = some (.int z) := atI_nat (by rw [List.getElem?_map, h]; rfl)
theorem ints_get {ns : List Int} {i : Nat} {x : V} (h : (ns.map V.int)[i]? = some x) : ∃ z, ns[i]? = some z ∧ x = .int z := by
  rw [List.getElem?_map] at h
  cases e : ns[i]? with
  | none =>
    rw [e] at h
    cases h
  | some z =>
    rw [e] at h
    exact ⟨z, rfl, (Option.some.inj h).symm⟩
theorem isi_true {K : PySem.W.Frag} {H : Hp} {x : V} {a b : String} (t : TyX K H x (.type a)) (h : kitB a b = some true) {Q : VK} (q : Q (.bl true) H) : rIsi K [x, .ty b] H Q := ⟨x, .ty b, .type a, .type b, true, rfl, .ty b, t, kit_ty h, q⟩
theorem isi_false {K : PySem.W.Frag} {H : Hp} {x : V} {a b : String} (t : TyX K H x (.type a)) (h : kitB a b = some false) {Q : VK} (q : Q (.bl false) H) : rIsi K [x, .ty b] H Q := ⟨x, .ty b, .type a, .type b, false, rfl, .ty b, t, kit_ty h, q⟩
end L2.K23
set_option Elab.async false
set_option linter.all false
set_option maxRecDepth 100000
set_option maxHeartbeats 4000000
/-! Helpers for comprehensions that take each item to a value, no test, nothing new. -/
namespace L2.K23
open PySem PySem.Spec PyProof.Rows
theorem take_snoc {α : Type} {l : List α} {i : Nat} {y : α} (h : l[i]? = some y) : l.take i ++ [y] = l.take (i + 1) := by
  rw [List.take_add_one, h]
  rfl
theorem lc_tup_map {K : PySem.W.Frag} {a : Addr} {xs ys : List V} {g : TG} {te : TE} {vs : List Nat} {σ : St} {H1 : Hp} {D : Addr} {Qd : Hp → Prop} (hT : SqT K H1 a xs) (fresh : H1 D = none) (len : ys.length = xs.length) (small : ys.length ≤ 100000)
    (each : ∀ (i : Nat) (x y : V) (H : Hp) (R : V → Hp → Prop), xs[i]? = some x → ys[i]? = some y → Same H1 H → R y H → g x (wipe σ vs) H fun σ2 H2 => wipe σ2 vs = wipe σ vs ∧ te σ2 H2 R) (hd : Qd (upd H1 D (.lst ys))) :
    ∃ W : Nat → Nat → Hp → Prop, (∃ m, W 0 m (upd H1 D (.lst []))) ∧ ∀ i m H, W i m H →
      ((Itt K a).stop i H ∧ Qd H) ∨ ((Itt K a).go i H ∧ ∃ Nx : Hp → Prop, (∀ H', Nx H' → ∃ m', m' < m ∧ W (i + 1) m' H') ∧ ∀ x H', (Itt K a).yld i H x H' → g x (wipe σ vs) H' fun σ2 H2 => wipe σ2 vs = wipe σ vs ∧ tYes σ2 H2 fun b H3 =>
        if b = true then te σ2 H3 fun y H4 => ∃ acc, H4 D = some (.lst acc) ∧ acc.length < sizeLine ∧ Nx (upd H4 D (.lst (acc ++ [y]))) else Nx H3) := by
  have st : ∀ o, Same H1 (upd H1 D o) := fun o => same_upd fresh
  refine lc_tup (K := K) (a := a) (xs := xs) (fun i H => H = upd H1 D (.lst (ys.take i))) rfl (fun i H _ e => ?_) (fun i x H hx e => ?_) fun H e => ?_
  · subst e
    rcases hT with (h | ⟨o, h⟩) | h
    · exact .inl (.inl (st _ _ _ h))
    · exact .inl (.inr ⟨o, st _ _ _ h⟩)
    · exact .inr h
  · subst e
    have lt : i < ys.length := by
      have := (List.getElem?_eq_some_iff.mp hx).1
      omega
    refine each i x ys[i] _ _ hx (List.getElem?_eq_getElem lt) (st _) ?_
    refine ⟨_, upd_same, ?_, ?_⟩
    · rw [List.length_take]
      exact lt_line (by omega)
    · rw [upd_upd, take_snoc (List.getElem?_eq_getElem lt)]
  · subst e
    have : ys.take xs.length = ys := List.take_of_length_le (by omega)
    rw [this]
    exact hd
theorem lc_list_map {K : PySem.W.Frag} {a : Addr} {xs ys : List V} {g : TG} {te : TE} {vs : List Nat} {σ : St} {H1 : Hp} {D : Addr} {Qd : Hp → Prop} (hT : SqL K H1 a xs) (fresh : H1 D = none) (len : ys.length = xs.length) (small : ys.length ≤ 100000)
    (each : ∀ (i : Nat) (x y : V) (H : Hp) (R : V → Hp → Prop), xs[i]? = some x → ys[i]? = some y → Same H1 H → R y H → g x (wipe σ vs) H fun σ2 H2 => wipe σ2 vs = wipe σ vs ∧ te σ2 H2 R) (hd : Qd (upd H1 D (.lst ys))) :
    ∃ W : Nat → Nat → Hp → Prop, (∃ m, W 0 m (upd H1 D (.lst []))) ∧ ∀ i m H, W i m H →
      ((Itl K a).stop i H ∧ Qd H) ∨ ((Itl K a).go i H ∧ ∃ Nx : Hp → Prop, (∀ H', Nx H' → ∃ m', m' < m ∧ W (i + 1) m' H') ∧ ∀ x H', (Itl K a).yld i H x H' → g x (wipe σ vs) H' fun σ2 H2 => wipe σ2 vs = wipe σ vs ∧ tYes σ2 H2 fun b H3 =>
        if b = true then te σ2 H3 fun y H4 => ∃ acc, H4 D = some (.lst acc) ∧ acc.length < sizeLine ∧ Nx (upd H4 D (.lst (acc ++ [y]))) else Nx H3) := by
  have st : ∀ o, Same H1 (upd H1 D o) := fun o => same_upd fresh
  refine lc_list (K := K) (a := a) (xs := xs) (fun i H => H = upd H1 D (.lst (ys.take i))) rfl (fun i H _ e => ?_) (fun i x H hx e => ?_) fun H e => ?_
  · subst e
    exact (st _).seq hT
  · subst e
    have lt : i < ys.length := by
      have := (List.getElem?_eq_some_iff.mp hx).1
      omega
    refine each i x ys[i] _ _ hx (List.getElem?_eq_getElem lt) (st _) ?_
    refine ⟨_, upd_same, ?_, ?_⟩
    · rw [List.length_take]
      exact lt_line (by omega)
    · rw [upd_upd, take_snoc (List.getElem?_eq_getElem lt)]
  · subst e
    have : ys.take xs.length = ys := List.take_of_length_le (by omega)
    rw [this]
    exact hd
/-! ### rules with the written part by its name: within a comprehension's block -/
section
variable {X : Cx}
theorem ix_tupK (K : PySem.W.Frag) (h : X.K = K := by rfl) : IxR X (rIxT K) := h ▸ ix_tup
theorem ix_listK (K : PySem.W.Frag) (h : X.K = K := by rfl) : IxR X (rIxL K) := h ▸ ix_list
theorem isiK (K : PySem.W.Frag) (h : X.K = K := by rfl) : CallR X (.builtin "isinstance") (rIsi K) := h ▸ call_isi
end
theorem room65 {k : Nat} {A : Around} (hr : Room k A) : A.units + 65 < cLine := by
  have := hr.un
  omega
theorem room64 {k : Nat} {A : Around} (hr : Room k A) : A.units + 64 < cLine := by
  have := hr.un
  omega
/-! ### tiles and rows in the heap -/
open _root_.K23 (T4 Mach Cfg)
def TileO (t : T4) : HO := .tup [.int t.e, .int t.n, .int t.w, .int t.s]
theorem TileO.ints (t : T4) : TileO t = .tup ([t.e, t.n, t.w, t.s].map V.int) := rfl
abbrev refs (as : List (Addr × T4)) : List V := as.map fun x => V.ref x.1
abbrev Stand (H : Hp) (as : List (Addr × T4)) : Prop := ∀ x ∈ as, H x.1 = some (TileO x.2)
theorem Stand.mono {H H' : Hp} {as : List (Addr × T4)} (h : Stand H as) (s : Same H H') : Stand H' as := fun x hx => s _ _ (h x hx)
/-- a row of tiles at p -/
def RowAt (H : Hp) (p : Addr) (r : List T4) : Prop := ∃ as : List (Addr × T4), as.map (·.2) = r ∧ H p = some (.tup (refs as)) ∧ Stand H as
theorem RowAt.mono {H H' : Hp} {p : Addr} {r : List T4} (h : RowAt H p r) (s : Same H H') : RowAt H' p r := by
  obtain ⟨as, e, hp, st⟩ := h
  exact ⟨as, e, s _ _ hp, st.mono s⟩
theorem refs_get {as : List (Addr × T4)} {i : Nat} {x : V} (h : (refs as)[i]? = some x) : ∃ y, as[i]? = some y ∧ x = .ref y.1 ∧ y ∈ as := by
  rw [List.getElem?_map] at h
  cases e : as[i]? with
  | none =>
    rw [e] at h
    cases h
  | some y =>
    rw [e] at h
    exact ⟨y, rfl, (Option.some.inj h).symm, List.mem_of_getElem? e⟩
end L2.K23
set_option Elab.async false
set_option linter.all false
set_option maxRecDepth 100000
set_option maxHeartbeats 4000000
/-! Small defs. -/
namespace L2.K23
open PySem PySem.Spec PyProof.Rows
open _root_.K23 (T4 Mach Cfg)
section
variable {P : Program} {w : World} {K : PySem.W.Frag} {mg : Str → Option Value} {base : Heap}
/-! ### is_integer: asked of ints within the bounds alone -/
theorem scIsInteger : FnScope ["value", "least", "most"] ["value", "least", "most"] (defScope sIsInteger) := ⟨rfl, rfl, rfl, by decide +kernel, rfl, by decide +kernel, by decide +kernel⟩
def spIsInteger : Sp := fun vs H Q _ => ∃ i lo hi : Int, vs = [.int i, .int lo, .int hi] ∧ lo ≤ i ∧ i ≤ hi ∧ Q (.bl true) H
theorem ok_isInteger {f : Addr} {fd : FuncData} {k : Nat} (F : Fun K "is_integer" "is_integer" sIsInteger f fd) (B : Bi mg) : FnOk P w K mg base CX0 (k + 1) f fd ["value", "least", "most"] spIsInteger := by
  refine F.ok scIsInteger (fun vs H Q E h => ?_) (fun cdv A outer s H vs Q E hr h => ?_)
  · obtain ⟨i, lo, hi, rfl, _⟩ := h
    rfl
  · obtain ⟨i, lo, hi, rfl, h1, h2, q⟩ := h
    refine ⟨_, pss_one (ps_ret (pe_and (pe_callB call_isi (by rfl) B.isinstance boot_isinstance (pa_cons (pv 0) (pa_cons (pe_bltn (v := .ty "int") (by rfl) B.int boot_int rfl) pa_nil)))
      (pe_and (pe_not (pe_callB call_isi (by rfl) B.isinstance boot_isinstance (pa_cons (pv 0) (pa_cons (pe_bltn (v := .ty "bool") (by rfl) B.bool boot_bool rfl) pa_nil))))
        (pe_one (pe_chain op_le op_le (pv 1) (pv 0) (pv 2)))))), ?_⟩
    refine ⟨_, rfl, _, _, _, _, true, rfl, .ty _, .base (.int i), kit_ty (by decide +kernel), _, rfl, iteT ?_⟩
    refine ⟨_, rfl, _, _, _, _, false, rfl, .ty _, .base (.int i), kit_ty (by decide +kernel), _, rfl, _, rfl, iteT ?_⟩
    refine ⟨_, rfl, _, rfl, _, _, rfl, rfl, _, rfl, ?_⟩
    rw [decide_eq_true h1]
    refine iteT ⟨_, rfl, _, _, rfl, rfl, ?_⟩
    show Q (.bl (decide (i ≤ hi))) H
    rw [decide_eq_true h2]
    exact q
/-! ### _law_is_integer of an int -/
theorem scLawIsInteger : FnScope ["_law_actual"] ["_law_actual"] (defScope sLawIsInteger) := ⟨rfl, rfl, rfl, by decide +kernel, rfl, by decide +kernel, by decide +kernel⟩
def spLawIsInteger : Sp := fun vs H Q _ => ∃ i : Int, vs = [.int i] ∧ Q (.bl true) H
theorem ok_lawIsInteger {f : Addr} {fd : FuncData} {k : Nat} (F : Fun K "_law_is_integer" "_law_is_integer" sLawIsInteger f fd) (B : Bi mg) : FnOk P w K mg base CX0 (k + 1) f fd ["_law_actual"] spLawIsInteger := by
  refine F.ok scLawIsInteger (fun vs H Q E h => ?_) (fun cdv A outer s H vs Q E hr h => ?_)
  · obtain ⟨i, rfl, _⟩ := h
    rfl
  · obtain ⟨i, rfl, q⟩ := h
    refine ⟨_, pss_one (ps_ret (pe_and (pe_callB call_isi (by rfl) B.isinstance boot_isinstance (pa_cons (pv 0) (pa_cons (pe_bltn (v := .ty "int") (by rfl) B.int boot_int rfl) pa_nil)))
      (pe_one (pe_not (pe_callB call_isi (by rfl) B.isinstance boot_isinstance (pa_cons (pv 0) (pa_cons (pe_bltn (v := .ty "bool") (by rfl) B.bool boot_bool rfl) pa_nil))))))), ?_⟩
    refine ⟨_, rfl, _, _, _, _, true, rfl, .ty _, .base (.int i), kit_ty (by decide +kernel), _, rfl, iteT ?_⟩
    exact ⟨_, rfl, _, _, _, _, false, rfl, .ty _, .base (.int i), kit_ty (by decide +kernel), _, rfl, q⟩
/-! ### letter_of, _law_letter -/
theorem scLetterOf : FnScope ["marks", "mark", "state"] ["marks", "mark", "state"] (defScope sLetterOf) := ⟨rfl, rfl, rfl, by decide +kernel, rfl, by decide +kernel, by decide +kernel⟩
def spLetterOf : Sp := fun vs H Q _ => ∃ m a q : Int, vs = [.int m, .int a, .int q] ∧ 2 ≤ m ∧ m ≤ 5 ∧ Q (.int (m * (q + 1) + a)) H
theorem ok_letterOf {f : Addr} {fd : FuncData} {k : Nat} (F : Fun K "letter_of" "letter_of" sLetterOf f fd) : FnOk P w K mg base CX0 (k + 1) f fd ["marks", "mark", "state"] spLetterOf := by
  refine F.ok scLetterOf (fun vs H Q E h => ?_) (fun cdv A outer s H vs Q E hr h => ?_)
  · obtain ⟨m, a, q, rfl, _⟩ := h
    rfl
  · obtain ⟨m, a, q, rfl, h1, h2, hq⟩ := h
    refine ⟨_, pss_one (ps_ret (pe_ifExp (pt_cmpR op_isN (pv 2) pe_non (nomark _)) (pv 1) (pe_op op_add (pe_op op_mul (pv 0) (pe_op op_add (pv 2) pe_int)) (pv 1)))), ?_⟩
    refine ⟨_, rfl, rfl, _, rfl, ?_⟩
    refine iteF ?_
    exact ⟨_, rfl, _, rfl, _, _, rfl, rfl, _, _, rfl, rfl, .inl ⟨by omega, by omega⟩, _, rfl, _, _, rfl, rfl, hq⟩
/-! ### next_floor -/
theorem scNextFloor : FnScope ["row", "tile"] ["row"] (defScope sNextFloor) := ⟨rfl, rfl, rfl, by decide +kernel, rfl, by decide +kernel, by decide +kernel⟩
def spNextFloor : Sp := fun vs H Q _ => ∃ (p : Addr) (r : List T4), vs = [.ref p] ∧ RowAt H p r ∧ r.length ≤ 60 ∧ ∀ H' q, Same H H' → H q = none → TupI H' q (r.map T4.n) → Q (.ref q) H'
theorem ok_nextFloor {f : Addr} {fd : FuncData} {k : Nat} (F : Fun K "next_floor" "next_floor" sNextFloor f fd) (B : Bi mg) : FnOk P w K mg base CX0 (k + 1) f fd ["row"] spNextFloor := by
  refine F.ok scNextFloor (fun vs H Q E h => ?_) (fun cdv A outer s H vs Q E hr h => ?_)
  · obtain ⟨p, r, rfl, _⟩ := h
    rfl
  · obtain ⟨p, r, rfl, ⟨as, rfl, hp, st⟩, len, q⟩ := h
    rw [List.length_map] at len
    refine ⟨_, pss_one (ps_ret (pe_callTy call_tuple_of (by rfl) B.tuple boot_tuple (pa_cons (pe_lc (own := [("tile", 1)]) (g := gName 1) (by rfl) scNextFloor.nd (pi_tup (pv 0)) (blkOk_by (N := ["row", "tile"]) (sc := defScope sNextFloor) (by decide +kernel))
      (fun _ _ _ _ _ => pg_name (i := 1) scNextFloor.nd rfl (Or.inl rfl)) (fun _ _ _ _ _ => pts_nil) (fun _ _ _ _ _ => pe_ix (ix_tupK K) (pv 1) pe_int (fun _ _ => rfl))) pa_nil))), ?_⟩
    refine ⟨_, rfl, _, rfl, ⟨_, sqT hp⟩, fun D hD => ?_⟩
    refine lc_tup_map (ys := (as.map fun x => x.2.n).map V.int) (sqT hp) hD (by simp) (by simp; omega) (fun i x y H2 R hx hy s2 hR => ?_) ?_
    · obtain ⟨z, hz, rfl, hm⟩ := refs_get hx
      rw [List.getElem?_map, List.getElem?_map, hz] at hy
      cases hy
      exact ⟨rfl, _, rfl, _, _, 1, _, rfl, rfl, sqT (s2 _ _ (st z hm)), atI_nat (j := 1) rfl, hR⟩
    · refine ⟨D, _, rfl, .inl ⟨sqL upd_same, fun q2 nq => ?_⟩⟩
      have n2 : H q2 = none := (same_upd hD).free nq
      refine q _ q2 ((same_upd hD).trans (same_upd nq)) n2 ?_
      have e : (as.map (·.2)).map T4.n = as.map fun x => x.2.n := by
        rw [List.map_map]
        rfl
      rw [e]
      exact upd_same
/-! ### _is_tile of a tile -/
theorem scIsTile : FnScope ["value", "numbers", "one"] ["value"] (defScope sIsTile) := ⟨rfl, rfl, rfl, by decide +kernel, rfl, by decide +kernel, by decide +kernel⟩
def spIsTile : Sp := fun vs H Q _ => ∃ (p : Addr) (ns : List Int), vs = [.ref p] ∧ TupI H p ns ∧ ns.length = 4 ∧ (∀ n ∈ ns, 0 ≤ n ∧ n ≤ 999) ∧ ∀ H', Same H H' → Q (.bl true) H'
theorem ok_isTile {f : Addr} {fd : FuncData} {k : Nat} (F : Fun K "_is_tile" "_is_tile" sIsTile f fd) (B : Bi mg) (C : Cs mg) : FnOk P w K mg base CX0 (k + 1) f fd ["value"] spIsTile := by
  refine F.ok scIsTile (fun vs H Q E h => ?_) (fun cdv A outer s H vs Q E hr h => ?_)
  · obtain ⟨p, ns, rfl, _⟩ := h
    rfl
  · obtain ⟨p, ns, rfl, hp, len, bd, q⟩ := h
    refine ⟨_, pss_cons (ps_if (PW.pt (pw_or (pt_not (pt_val (pe_callB call_isi (by rfl) B.isinstance boot_isinstance (pa_cons (pv 0) (pa_cons (pe_bltn (v := .ty "tuple") (by rfl) B.tuple boot_tuple rfl) pa_nil)))))
        (pw_or1 (pt_cmpR op_ne (pe_callB call_len_seq (by rfl) B.len PySem.boot_len (pa_cons (pv 0) pa_nil)) pe_int (nomark _))))) (pss_one ps_never) pss_nil)
      (pss_cons (ps_setLc (i := 1) (own := [("one", 2)]) (g := gName 2) (by rfl) scIsTile.nd rfl rfl (sw_true rfl rfl rfl (by decide +kernel)) (pi_tup (pv 0)) (blkOk_by (N := ["value", "numbers", "one"]) (sc := defScope sIsTile) (by decide +kernel))
        (fun _ _ _ _ _ => pg_name (i := 2) scIsTile.nd rfl (Or.inl rfl)) (fun _ _ _ _ _ => pts_nil)
        (fun _ _ _ _ _ => pe_and (pe_callB (isiK K) (by rfl) B.isinstance boot_isinstance (pa_cons (pv 2) (pa_cons (pe_bltn (v := .ty "int") (by rfl) B.int boot_int rfl) pa_nil)))
          (pe_one (pe_not (pe_callB (isiK K) (by rfl) B.isinstance boot_isinstance (pa_cons (pv 2) (pa_cons (pe_bltn (v := .ty "bool") (by rfl) B.bool boot_bool rfl) pa_nil)))))))
      (pss_one (ps_ret (pe_and (pe_callB (cr_all rfl) (by rfl) B.all boot_all (pa_cons (pv 1) pa_nil))
        (pe_and (pe_cmpR op_ge (pe_callB (cr_minT rfl) (by rfl) B.min boot_min (pa_cons (pv 0) pa_nil)) pe_int (nomark _))
          (pe_one (pe_cmpR op_le (pe_callB (cr_maxT rfl) (by rfl) B.max boot_max (pa_cons (pv 0) pa_nil)) (C8.pe_gc (by rfl) C.colour) (nomark _)))))))), ?_⟩
    refine ⟨_, rfl, _, _, _, _, true, rfl, .ty _, .base (.tup hp), kit_ty (by decide +kernel), _, rfl, ?_⟩
    refine iteF ⟨_, rfl, p, _, rfl, .inr hp.sq, rfl, _, rfl, ?_⟩
    rw [List.length_map, len]
    refine iteF ?_
    refine ⟨_, rfl, _, rfl, ⟨_, hp.sq⟩, fun D hD => ?_⟩
    refine lc_tup_map (ys := (ns.map fun _ => true).map V.bl) hp.sq hD (by simp) (by simp; omega) (fun i x y H2 R hx hy s2 hR => ?_) ?_
    · obtain ⟨z, hz, rfl⟩ := ints_get hx
      rw [List.getElem?_map, List.getElem?_map, hz] at hy
      cases hy
      refine ⟨rfl, _, rfl, _, _, _, _, true, rfl, .ty _, .base (.int z), kit_ty (by decide +kernel), _, rfl, iteT ?_⟩
      exact ⟨_, rfl, _, _, _, _, false, rfl, .ty _, .base (.int z), kit_ty (by decide +kernel), _, rfl, hR⟩
    · have s1 : Same H (upd H D (.lst ((ns.map fun _ => true).map V.bl))) := same_upd hD
      have hp1 : TupI _ p ns := s1 _ _ hp
      have al : (ns.map fun _ => true).all id = true := by simp
      have pos : 0 < ns.length := by omega
      refine ⟨_, rfl, D, _, rfl, sqL upd_same, _, rfl, ?_⟩
      rw [al]
      refine iteT ⟨_, rfl, p, ns, rfl, hp1.sq, pos, fun m hm => ?_⟩
      refine ⟨_, _, rfl, rfl, _, rfl, ?_⟩
      rw [decide_eq_true (bd m hm).1]
      refine iteT ⟨_, rfl, p, ns, rfl, hp1.sq, pos, fun m2 hm2 => ?_⟩
      refine ⟨_, _, rfl, rfl, ?_⟩
      show Q (.bl (decide (m2 ≤ 999))) _
      rw [decide_eq_true (bd m2 hm2).2]
      exact q _ s1
/-! ### _check_size -/
theorem scCheckSize : FnScope ["floor", "height"] ["floor", "height"] (defScope sCheckSize) := ⟨rfl, rfl, rfl, by decide +kernel, rfl, by decide +kernel, by decide +kernel⟩
def spCheckSize : Sp := fun vs H Q _ => ∃ (p : Addr) (ns : List Int) (h : Int), vs = [.ref p, .int h] ∧ TupI H p ns ∧ ns.length ≤ 60 ∧ h ≤ 60 ∧ Q .non H
theorem ok_checkSize {f : Addr} {fd : FuncData} {k : Nat} (F : Fun K "_check_size" "_check_size" sCheckSize f fd) (B : Bi mg) (C : Cs mg) : FnOk P w K mg base CX0 (k + 1) f fd ["floor", "height"] spCheckSize := by
  refine F.ok scCheckSize (fun vs H Q E h => ?_) (fun cdv A outer s H vs Q E hr h => ?_)
  · obtain ⟨p, ns, h, rfl, _⟩ := h
    rfl
  · obtain ⟨p, ns, h, rfl, hp, len, hh, q⟩ := h
    refine ⟨_, pss_one (ps_if (PW.pt (pw_or (pt_cmpR op_gt (pe_callB call_len_seq (by rfl) B.len PySem.boot_len (pa_cons (pv 0) pa_nil)) (C8.pe_gc (by rfl) C.floor) (nomark _))
      (pw_or1 (pt_cmpR op_gt (pv 1) (C8.pe_gc (by rfl) C.height) (nomark _))))) (pss_one ps_never) pss_nil), ?_⟩
    refine ⟨_, rfl, p, _, rfl, .inr hp.sq, _, _, rfl, rfl, _, rfl, ?_⟩
    rw [List.length_map, decide_eq_false (by omega)]
    refine iteF ⟨_, rfl, _, _, rfl, rfl, _, rfl, ?_⟩
    rw [decide_eq_false (by omega)]
    exact iteF q
end
end L2.K23
set_option Elab.async false
set_option linter.all false
set_option maxRecDepth 100000
set_option maxHeartbeats 4000000
/-! The defs that cut blanks off: trimmed, _law_trim, without_ends. -/
namespace L2.K23
open PySem PySem.Spec PyProof.Rows
open _root_.K23 (T4 Mach Cfg trim strip)
/-! ### slices -/
theorem cut_take (xs : List V) {k : Nat} (h : k ≤ xs.length) : cutV xs none (some (k : Int)) = xs.take k := by
  unfold cutV
  rw [HT.sIx_none, HT.sIx_nat, Nat.min_eq_left h]
  simp
theorem cut_mid (xs : List V) {i k : Nat} (hi : i ≤ k) (h : k ≤ xs.length) : cutV xs (some (i : Int)) (some (k : Int)) = (xs.take k).drop i := by
  unfold cutV
  rw [HT.sIx_nat, HT.sIx_nat, Nat.min_eq_left h, Nat.min_eq_left (by omega), List.drop_take]
theorem cut_drop (xs : List V) {i : Nat} (h : i ≤ xs.length) : cutV xs (some (i : Int)) none = xs.drop i := by
  unfold cutV
  rw [HT.sIx_none, HT.sIx_nat, Nat.min_eq_left h, List.take_of_length_le (by rw [List.length_drop]; omega)]
section
variable {P : Program} {w : World} {K : PySem.W.Frag} {mg : Str → Option Value} {base : Heap}
/-- tuple(t[:k]) of a tuple -/
theorem slice_tup {H : Hp} {a : Addr} {xs : List V} {lo hi : Option Int} {Q : VK} (hp : H a = some (.tup xs)) (q : ∀ H' q, Same H H' → H' q = some (.tup (cutV xs lo hi)) → Q (.ref q) H') : rSlA K (.ref a) lo hi H Q := by
  refine ⟨a, xs, rfl, sqT hp, fun hw => ?_, fun _ p np => q _ p (same_upd np) upd_same⟩
  refine q H a (Same.refl H) ?_
  have : cutV xs lo hi = xs := by
    unfold cutV
    rw [hw.1, hw.2]
    simp
  rw [this]
  exact hp
/-! ### trimmed -/
theorem scTrimmed : FnScope ["marks", "count"] ["marks"] (defScope sTrimmed) := ⟨rfl, rfl, rfl, by decide +kernel, rfl, by decide +kernel, by decide +kernel⟩
def spTrimmed : Sp := fun vs H Q _ => ∃ (p : Addr) (ns : List Int), vs = [.ref p] ∧ TupI H p ns ∧ ns.length ≤ 1000 ∧ ∀ H' q, Same H H' → TupI H' q (trim ns) → Q (.ref q) H'
theorem ok_trimmed {f : Addr} {fd : FuncData} {k : Nat} (F : Fun K "trimmed" "trimmed" sTrimmed f fd) (B : Bi mg) : FnOk P w K mg base CX0 (k + 1) f fd ["marks"] spTrimmed := by
  refine F.ok scTrimmed (fun vs H Q E h => ?_) (fun cdv A outer s H vs Q E hr h => ?_)
  · obtain ⟨p, ns, rfl, _⟩ := h
    rfl
  · obtain ⟨p, ns, rfl, hp, len, q⟩ := h
    refine ⟨_, pss_cons (ps_set (i := 1) scTrimmed.nd rfl (Or.inl rfl) (pe_callB call_len_seq (by rfl) B.len PySem.boot_len (pa_cons (pv 0) pa_nil)))
      (pss_cons (ps_while PassesOwn.never (PW.pt (pw_and (pt_cmpR op_gt (pv 1) pe_int (nomark _)) (pw_and1 (pt_cmpR op_eq (pe_ix (ix_tupK K) (pv 0) (pe_op op_sub (pv 1) pe_int) (fun _ _ => rfl)) pe_int (nomark _)))))
        (pss_one (ps_aug (i := 1) scTrimmed.nd rfl (.inl rfl) pe_int ip_sub)))
      (pss_one (ps_ret (pe_callTy call_tuple_of (by rfl) B.tuple boot_tuple (pa_cons (pe_slice sl_tupA (pv 0) po_none (po_some (pv 1))) pa_nil))))), ?_⟩
    refine ⟨_, rfl, p, _, rfl, .inr hp.sq, ?_⟩
    rw [List.length_map]
    refine ⟨fun m σ H2 => H2 = H ∧ σ = [some (.ref p), some (.int (m : Int))] ∧ m ≤ ns.length ∧ trim (ns.take m) = trim ns, ⟨ns.length, rfl, rfl, Nat.le_refl _, by rw [List.take_length]⟩, ?_⟩
    rintro m σ H2 ⟨rfl, rfl, hm, ht⟩
    have fin : trim (ns.take m) = ns.take m → tRet (tCB (fun xs H Q => ∃ p ys, xs = [.ref p] ∧ ((SqL K H p ys ∧ ∀ l, H l = none → Q (.ref l) (upd H l (.tup ys))) ∨ (SqT K H p ys ∧ Q (.ref p) H))) (tCons (tSl (rSlA K) (tVar 0) tNoPart (tPart (tVar 1))) tNil)) { nx := fun _ H' => Q .non H', rt := Q } [some (.ref p), some (.int (m : Int))] H2 := fun e => by
      refine ⟨_, rfl, _, rfl, _, rfl, slice_tup hp fun H3 q3 s3 h3 => ?_⟩
      refine ⟨q3, _, rfl, .inr ⟨sqT h3, q H3 q3 s3 ?_⟩⟩
      rw [cut_take _ (by rw [List.length_map]; omega), ← List.map_take, ← e, ht] at h3
      exact h3
    refine ⟨_, rfl, _, _, rfl, rfl, _, rfl, ?_⟩
    by_cases h0 : 0 < m
    · have lt : m - 1 < ns.length := by omega
      have g : ns[m - 1]? = some ns[m - 1] := List.getElem?_eq_getElem lt
      have em : m - 1 + 1 = m := by omega
      rw [decide_eq_true (show (0 : Int) < (m : Int) by omega)]
      refine iteT ⟨_, rfl, _, rfl, _, _, rfl, rfl, p, _, _, .int ns[m - 1], rfl, rfl, hp.sq, at_of (j := m - 1) (by omega) (by rw [List.getElem?_map, g]; rfl), rfl, _, rfl, ?_⟩
      refine ite2 (fun e => ?_) (fun e => ?_)
      · have e0 : ns[m - 1] = 0 := V.int.inj (of_decide_eq_true e)
        refine ⟨fun σ' H' => H' = H2 ∧ σ' = [some (.ref p), some (.int ((m - 1 : Nat) : Int))], fun σ' H' hN => ⟨m - 1, by omega, hN.1, hN.2, by omega, ?_⟩, ?_⟩
        · rw [e0] at g
          rw [← em, _root_.K23.trim_take_step g] at ht
          exact ht
        · refine ⟨_, rfl, _, _, rfl, rfl, rfl, ?_⟩
          have : ((m - 1 : Nat) : Int) = (m : Int) - 1 := by omega
          rw [this]
          rfl
      · refine fin ?_
        have z : ns[m - 1] ≠ 0 := fun e0 => e (decide_eq_true (congrArg V.int e0))
        have := _root_.K23.trim_take_stop g z
        rw [em] at this
        exact this
    · have e0 : m = 0 := by omega
      rw [decide_eq_false (show ¬ (0 : Int) < (m : Int) by omega)]
      refine iteF (iteF (fin ?_))
      subst e0
      rfl
/-! ### _law_trim: of a list or a tuple -/
theorem scLawTrim : FnScope ["_law_row", "_law_end", "_law_k"] ["_law_row"] (defScope sLawTrim) := ⟨rfl, rfl, rfl, by decide +kernel, rfl, by decide +kernel, by decide +kernel⟩
def spLawTrim : Sp := fun vs H Q _ => ∃ (p : Addr) (ns : List Int), vs = [.ref p] ∧ (LstI H p ns ∨ TupI H p ns) ∧ ns.length ≤ 1000 ∧ ∀ H' q, Same H H' → TupI H' q (trim ns) → Q (.ref q) H'
theorem ok_lawTrim {f : Addr} {fd : FuncData} {k : Nat} (F : Fun K "_law_trim" "_law_trim" sLawTrim f fd) (B : Bi mg) : FnOk P w K mg base CX0 (k + 1) f fd ["_law_row"] spLawTrim := by
  refine F.ok scLawTrim (fun vs H Q E h => ?_) (fun cdv A outer s H vs Q E hr h => ?_)
  · obtain ⟨p, ns, rfl, _⟩ := h
    rfl
  · obtain ⟨p, ns, rfl, hp, len, q⟩ := h
    have hs : SqL K H p (ns.map V.int) ∨ SqT K H p (ns.map V.int) := hp.elim (fun h => .inl h.sq) fun h => .inr h.sq
    refine ⟨_, pss_cons (ps_set (i := 1) scLawTrim.nd rfl (Or.inl rfl) (pe_callB call_len_seq (by rfl) B.len PySem.boot_len (pa_cons (pv 0) pa_nil)))
      (pss_cons (ps_for PassesOwn.never rfl (pi_range1 (by rfl) B.range (pa_cons (pe_callB call_len_seq (by rfl) B.len PySem.boot_len (pa_cons (pv 0) pa_nil)) pa_nil)) (pg_name (i := 2) scLawTrim.nd rfl (Or.inl rfl))
        (pss_one (ps_if (PW.pt (pw_and (pt_cmpR op_gt (pv 1) pe_int (nomark _)) (pw_and1 (pt_cmpR op_eq (pe_ix ix_seq (pv 0) (pe_op op_sub (pv 1) pe_int) (fun _ _ => rfl)) pe_int (nomark _)))))
          (pss_one (ps_set (i := 1) scLawTrim.nd rfl (Or.inl rfl) (pe_op op_sub (pv 1) pe_int))) pss_nil)))
      (pss_one (ps_ret (pe_callTy call_tuple_of (by rfl) B.tuple boot_tuple (pa_cons (pe_slice (SlR.or sl_list sl_tupA) (pv 0) po_none (po_some (pv 1))) pa_nil))))), ?_⟩
    refine ⟨_, rfl, p, _, rfl, hs, ?_⟩
    rw [List.length_map]
    refine ⟨_, rfl, p, _, rfl, hs, ?_⟩
    rw [List.length_map]
    refine ⟨_, rfl, by omega, by omega, ?_⟩
    refine for_range (lo := 0) (n := ns.length) (fun i σ H2 => H2 = H ∧ ∃ (m : Nat) (y : Option V), σ = [some (.ref p), some (.int (m : Int)), y] ∧ m ≤ ns.length ∧ trim (ns.take m) = trim ns ∧ (m + i = ns.length ∨ trim (ns.take m) = ns.take m))
      ⟨rfl, ns.length, none, rfl, Nat.le_refl _, by rw [List.take_length], .inl rfl⟩ ?_ ?_
    · rintro i σ H2 hi ⟨rfl, m, y, rfl, hm, ht, hc⟩
      refine ⟨_, rfl, _, _, rfl, rfl, _, rfl, ?_⟩
      by_cases h0 : 0 < m
      · have lt : m - 1 < ns.length := by omega
        have g : ns[m - 1]? = some ns[m - 1] := List.getElem?_eq_getElem lt
        have em : m - 1 + 1 = m := by omega
        have gv : (ns.map V.int)[m - 1]? = some (.int ns[m - 1]) := by
          rw [List.getElem?_map, g]
          rfl
        rw [decide_eq_true (show (0 : Int) < (m : Int) by omega)]
        refine iteT ⟨_, rfl, _, rfl, _, _, rfl, rfl, ?_⟩
        have next : ∀ R : VK, R (.int ns[m - 1]) H2 → rIx K (.ref p) (.int ((m : Int) - 1)) H2 R := fun R r => by
          rcases hs with hs | hs
          · exact .inl ⟨p, _, _, _, rfl, rfl, hs, at_of (j := m - 1) (by omega) gv, r⟩
          · exact .inr (.inl ⟨p, _, _, _, rfl, rfl, hs, at_of (j := m - 1) (by omega) gv, r⟩)
        refine next _ ⟨rfl, _, rfl, ?_⟩
        refine ite2 (fun e => ?_) (fun e => ?_)
        · have e0 : ns[m - 1] = 0 := V.int.inj (of_decide_eq_true e)
          refine ⟨_, rfl, _, _, rfl, rfl, rfl, m - 1, some (.int (0 + (i : Int))), ?_, by omega, ?_, ?_⟩
          · have : ((m - 1 : Nat) : Int) = (m : Int) - 1 := by omega
            rw [this]
            rfl
          · rw [e0] at g
            rw [← em, _root_.K23.trim_take_step g] at ht
            exact ht
          · rcases hc with hc | hc
            · exact .inl (by omega)
            · exfalso
              have l1 : ns.take m = ns.take (m - 1) ++ [0] := by
                conv => lhs; rw [← em, List.take_add_one, g, e0]
                rfl
              have z := _root_.K23.trim_last (l := ns.take m) hc 0 (by rw [l1]; simp)
              exact z rfl
        · refine ⟨rfl, m, some (.int (0 + (i : Int))), rfl, hm, ht, .inr ?_⟩
          have z : ns[m - 1] ≠ 0 := fun e0 => e (decide_eq_true (congrArg V.int e0))
          have := _root_.K23.trim_take_stop g z
          rw [em] at this
          exact this
      · have e0 : m = 0 := by omega
        rw [decide_eq_false (show ¬ (0 : Int) < (m : Int) by omega)]
        refine iteF (iteF ⟨rfl, m, some (.int (0 + (i : Int))), rfl, hm, ht, .inr ?_⟩)
        subst e0
        rfl
    · rintro σ H2 ⟨rfl, m, y, rfl, hm, ht, hc⟩
      have e : trim (ns.take m) = ns.take m := by
        rcases hc with hc | hc
        · have e0 : m = 0 := by omega
          subst e0
          rfl
        · exact hc
      have cut : cutV (ns.map V.int) none (some (m : Int)) = (trim ns).map V.int := by
        rw [cut_take _ (by rw [List.length_map]; omega), ← List.map_take, ← e, ht]
      refine ⟨_, rfl, _, rfl, _, rfl, ?_⟩
      rcases hp with hp | hp
      · refine .inl ⟨p, _, rfl, hp.sq, fun q3 nq => ⟨q3, _, rfl, .inl ⟨sqL upd_same, fun l nl => ?_⟩⟩⟩
        refine q _ l ((same_upd nq).trans (same_upd nl)) ?_
        rw [cut]
        exact upd_same
      · refine .inr (slice_tup hp fun H3 q3 s3 h3 => ⟨q3, _, rfl, .inr ⟨sqT h3, q H3 q3 s3 ?_⟩⟩)
        rw [cut] at h3
        exact h3
/-! ### without_ends -/
theorem scWithoutEnds : FnScope ["row", "begin", "end"] ["row"] (defScope sWithoutEnds) := ⟨rfl, rfl, rfl, by decide +kernel, rfl, by decide +kernel, by decide +kernel⟩
def spWithoutEnds : Sp := fun vs H Q _ => ∃ (p : Addr) (ns : List Int), vs = [.ref p] ∧ TupI H p ns ∧ ns.length ≤ 1000 ∧ ∀ H' q, Same H H' → TupI H' q (strip ns) → Q (.ref q) H'
theorem drop_zeros : ∀ {ns : List Int} {b : Nat}, (∀ i, i < b → ns[i]? = some 0) → ns.dropWhile (· == 0) = (ns.drop b).dropWhile (· == 0)
  | ns, 0, _ => rfl
  | [], b + 1, h => by simp
  | x :: ns, b + 1, h => by
    have e : x = 0 := by
      have := h 0 (by omega)
      simpa using this
    subst e
    rw [List.dropWhile_cons_of_pos (by rfl), List.drop_succ_cons]
    exact drop_zeros fun i hi => by
      have := h (i + 1) (by omega)
      simpa using this
theorem ok_withoutEnds {f : Addr} {fd : FuncData} {k : Nat} (F : Fun K "without_ends" "without_ends" sWithoutEnds f fd) (B : Bi mg) : FnOk P w K mg base CX0 (k + 1) f fd ["row"] spWithoutEnds := by
  refine F.ok scWithoutEnds (fun vs H Q E h => ?_) (fun cdv A outer s H vs Q E hr h => ?_)
  · obtain ⟨p, ns, rfl, _⟩ := h
    rfl
  · obtain ⟨p, ns, rfl, hp, len, q⟩ := h
    refine ⟨_, pss_cons (ps_set (i := 1) scWithoutEnds.nd rfl (Or.inl rfl) pe_int)
      (pss_cons (ps_set (i := 2) scWithoutEnds.nd rfl (Or.inl rfl) (pe_callB call_len_seq (by rfl) B.len PySem.boot_len (pa_cons (pv 0) pa_nil)))
      (pss_cons (ps_while PassesOwn.never (PW.pt (pw_and (pt_cmpR op_lt (pv 1) (pv 2) (nomark _)) (pw_and1 (pt_cmpR op_eq (pe_ix (ix_tupK K) (pv 0) (pv 1) (fun _ _ => rfl)) pe_int (nomark _)))))
        (pss_one (ps_aug (i := 1) scWithoutEnds.nd rfl (.inl rfl) pe_int ip_add)))
      (pss_cons (ps_while PassesOwn.never (PW.pt (pw_and (pt_cmpR op_gt (pv 2) (pv 1) (nomark _)) (pw_and1 (pt_cmpR op_eq (pe_ix (ix_tupK K) (pv 0) (pe_op op_sub (pv 2) pe_int) (fun _ _ => rfl)) pe_int (nomark _)))))
        (pss_one (ps_aug (i := 2) scWithoutEnds.nd rfl (.inl rfl) pe_int ip_sub)))
      (pss_one (ps_ret (pe_callTy call_tuple_of (by rfl) B.tuple boot_tuple (pa_cons (pe_slice sl_tupA (pv 0) (po_some (pv 1)) (po_some (pv 2))) pa_nil))))))), ?_⟩
    refine ⟨_, rfl, p, _, rfl, .inr hp.sq, ?_⟩
    rw [List.length_map]
    have at_ : ∀ {i : Nat} (h : i < ns.length), (ns.map V.int)[i]? = some (.int ns[i]) := fun {i} h => by
      rw [List.getElem?_map, List.getElem?_eq_getElem h]
      rfl
    refine ⟨fun m σ H2 => H2 = H ∧ ∃ b : Nat, σ = [some (.ref p), some (.int (b : Int)), some (.int (ns.length : Int))] ∧ b ≤ ns.length ∧ m = ns.length - b ∧ ∀ i, i < b → ns[i]? = some 0, ⟨ns.length, rfl, 0, rfl, Nat.zero_le _, rfl, fun i hi => absurd hi (Nat.not_lt_zero i)⟩, ?_⟩
    rintro m σ H2 ⟨rfl, b, rfl, hb, rfl, hz⟩
    refine ⟨_, rfl, _, rfl, _, _, rfl, rfl, _, rfl, ?_⟩
    by_cases hx : ∃ h : b < ns.length, ns[b] = 0
    · obtain ⟨h0, e0⟩ := hx
      rw [decide_eq_true (show (b : Int) < (ns.length : Int) by omega)]
      refine iteT ⟨_, rfl, _, rfl, p, _, _, .int ns[b], rfl, rfl, hp.sq, atI_nat (at_ h0), rfl, _, rfl, ?_⟩
      rw [decide_eq_true (congrArg V.int e0)]
      refine iteT ⟨fun σ' H' => H' = H2 ∧ σ' = [some (.ref p), some (.int ((b + 1 : Nat) : Int)), some (.int (ns.length : Int))], fun σ' H' hN => ⟨ns.length - (b + 1), by omega, hN.1, b + 1, hN.2, h0, rfl, fun i hi => ?_⟩, ?_⟩
      · by_cases e : i < b
        · exact hz i e
        · have e : i = b := by omega
          subst e
          rw [List.getElem?_eq_getElem h0, e0]
      · exact ⟨_, rfl, _, _, rfl, rfl, rfl, rfl⟩
    · have key : strip ns = trim (ns.drop b) := by
        unfold _root_.K23.strip
        rw [drop_zeros hz]
        by_cases h0 : b < ns.length
        · have e1 : ns.drop b = ns[b] :: ns.drop (b + 1) := List.drop_eq_getElem_cons h0
          rw [e1, List.dropWhile_cons_of_neg]
          simpa using fun e => hx ⟨h0, e⟩
        · rw [List.drop_of_length_le (by omega)]
          rfl
      by_cases h0 : b < ns.length
      rw [decide_eq_true (show (b : Int) < (ns.length : Int) by omega)]
      refine iteT ⟨_, rfl, _, rfl, p, _, _, .int ns[b], rfl, rfl, hp.sq, atI_nat (at_ h0), rfl, _, rfl, ?_⟩
      rw [decide_eq_false (fun e => hx ⟨h0, V.int.inj e⟩)]
      refine iteF ?_
      rotate_left
      rw [decide_eq_false (show ¬ (b : Int) < (ns.length : Int) by omega)]
      refine iteF (iteF ?_)
      all_goals
        refine ⟨fun m σ H3 => H3 = H2 ∧ ∃ n : Nat, σ = [some (.ref p), some (.int (b : Int)), some (.int (n : Int))] ∧ b ≤ n ∧ n ≤ ns.length ∧ m = n ∧ trim ((ns.drop b).take (n - b)) = strip ns, ⟨ns.length, rfl, ns.length, rfl, hb, Nat.le_refl _, rfl, ?_⟩, ?_⟩
        · rw [key, List.take_of_length_le (by rw [List.length_drop]; omega)]
        rintro m σ H3 ⟨rfl, n, rfl, hbn, hn, rfl, ht⟩
        have fin : trim ((ns.drop b).take (m - b)) = (ns.drop b).take (m - b) → tRet (tCB (fun xs H Q => ∃ p ys, xs = [.ref p] ∧ ((SqL K H p ys ∧ ∀ l, H l = none → Q (.ref l) (upd H l (.tup ys))) ∨ (SqT K H p ys ∧ Q (.ref p) H)))
            (tCons (tSl (rSlA K) (tVar 0) (tPart (tVar 1)) (tPart (tVar 2))) tNil)) { nx := fun _ H' => Q .non H', rt := Q } [some (.ref p), some (.int (b : Int)), some (.int (m : Int))] H3 := fun e => by
          refine ⟨_, rfl, _, rfl, _, rfl, _, rfl, _, rfl, slice_tup hp fun H4 q4 s4 h4 => ?_⟩
          refine ⟨q4, _, rfl, .inr ⟨sqT h4, q H4 q4 s4 ?_⟩⟩
          rw [cut_mid _ hbn (by rw [List.length_map]; omega), ← List.map_take, ← List.map_drop, List.drop_take, ← e, ht] at h4
          exact h4
        refine ⟨_, rfl, _, rfl, _, _, rfl, rfl, _, rfl, ?_⟩
        by_cases h1 : b < m
        · have lt : m - 1 < ns.length := by omega
          have em : m - b = (m - 1 - b) + 1 := by omega
          have g2 : (ns.drop b)[m - 1 - b]? = some ns[m - 1] := by
            rw [List.getElem?_drop]
            have : b + (m - 1 - b) = m - 1 := by omega
            rw [this, List.getElem?_eq_getElem lt]
          rw [decide_eq_true (show (b : Int) < (m : Int) by omega)]
          refine iteT ⟨_, rfl, _, rfl, _, _, rfl, rfl, p, _, _, .int ns[m - 1], rfl, rfl, hp.sq, at_of (j := m - 1) (by omega) (at_ lt), rfl, _, rfl, ?_⟩
          refine ite2 (fun e => ?_) (fun e => ?_)
          · have e0 : ns[m - 1] = 0 := V.int.inj (of_decide_eq_true e)
            refine ⟨fun σ' H' => H' = H3 ∧ σ' = [some (.ref p), some (.int (b : Int)), some (.int ((m - 1 : Nat) : Int))], fun σ' H' hN => ⟨m - 1, by omega, hN.1, m - 1, hN.2, by omega, by omega, rfl, ?_⟩, ?_⟩
            · rw [e0] at g2
              rw [em, _root_.K23.trim_take_step g2] at ht
              exact ht
            · refine ⟨_, rfl, _, _, rfl, rfl, rfl, ?_⟩
              have : ((m - 1 : Nat) : Int) = (m : Int) - 1 := by omega
              rw [this]
              rfl
          · refine fin ?_
            have z : ns[m - 1] ≠ 0 := fun e0 => e (decide_eq_true (congrArg V.int e0))
            have := _root_.K23.trim_take_stop g2 z
            rw [← em] at this
            exact this
        · have e0 : m - b = 0 := by omega
          rw [decide_eq_false (show ¬ (b : Int) < (m : Int) by omega)]
          refine iteF (iteF (fin ?_))
          rw [e0]
          rfl
end
end L2.K23
set_option Elab.async false
set_option linter.all false
set_option maxRecDepth 100000
set_option maxHeartbeats 4000000
/-! The class Tape: row, _is_row, __init__. -/
namespace L2.K23
open PySem PySem.Spec PyProof.Rows
open _root_.K23 (T4 Mach Cfg)
abbrev Row3 := Option (Int × Int × Int)
def RowV (H : Hp) (v : V) : Row3 → Prop
  | none => v = .non
  | some (w, mv, q) => ∃ p, v = .ref p ∧ H p = some (.tup [.int w, .int mv, .int q])
theorem RowV.mono {H H' : Hp} {v : V} {r : Row3} (h : RowV H v r) (s : ∀ b xs, H b = some (.tup xs) → H' b = some (.tup xs)) : RowV H' v r := by
  cases r with
  | none => exact h
  | some t =>
    obtain ⟨p, e, hp⟩ := h
    exact ⟨p, e, s _ _ hp⟩
/-- the items xs are the rows rs -/
structure RowsOf (H : Hp) (xs : List V) (rs : List Row3) : Prop where
  len : xs.length = rs.length
  at_ : ∀ (i : Nat) (r : Row3), rs[i]? = some r → ∃ v, xs[i]? = some v ∧ RowV H v r
theorem RowsOf.mono {H H' : Hp} {xs : List V} {rs : List Row3} (h : RowsOf H xs rs) (s : ∀ b ys, H b = some (.tup ys) → H' b = some (.tup ys)) : RowsOf H' xs rs :=
  ⟨h.len, fun i r e => let ⟨v, e1, e2⟩ := h.at_ i r e; ⟨v, e1, e2.mono s⟩⟩
/-- what a row of the machine may be -/
def RowOk (m st : Int) : Row3 → Prop
  | none => True
  | some (w, mv, q) => 0 ≤ w ∧ w < m ∧ (mv = 1 ∨ mv = -1) ∧ 0 ≤ q ∧ q < st
structure Nums (m st : Int) (rs : List Row3) : Prop where
  m2 : 2 ≤ m
  m5 : m ≤ 5
  s1 : 1 ≤ st
  s4 : st ≤ 4
  len : (rs.length : Int) = m * st
  ok : ∀ r ∈ rs, RowOk m st r
def mach (m st : Int) (rs : List Row3) : Mach := ⟨m, st, fun q a => (rs[(q * m + a).toNat]?).getD none⟩
theorem ix_bound {m st q a : Int} (h0 : 0 ≤ q) (h1 : q < st) (h2 : 0 ≤ a) (h3 : a < m) (hm : 2 ≤ m) : 0 ≤ q * m + a ∧ q * m + a < m * st := by
  have h4 : 0 ≤ q * m := Int.mul_nonneg h0 (by omega)
  have h5 : (q + 1) * m ≤ st * m := Int.mul_le_mul_of_nonneg_right (by omega) (by omega)
  rw [Int.add_mul, Int.one_mul, Int.mul_comm st m] at h5
  omega
theorem Nums.at_ {m st : Int} {rs : List Row3} (n : Nums m st rs) {q a : Int} (h0 : 0 ≤ q) (h1 : q < st) (h2 : 0 ≤ a) (h3 : a < m) : rs[(q * m + a).toNat]? = some ((mach m st rs).R q a) := by
  obtain ⟨b0, b1⟩ := ix_bound h0 h1 h2 h3 n.m2
  have lt : (q * m + a).toNat < rs.length := by
    have := n.len
    omega
  show _ = some ((rs[(q * m + a).toNat]?).getD none)
  rw [List.getElem?_eq_getElem lt]
  rfl
theorem Nums.mach {m st : Int} {rs : List Row3} (n : Nums m st rs) : (mach m st rs).Ok := by
  refine ⟨n.m2, n.m5, n.s1, n.s4, fun q a w v q' h0 h1 h2 h3 e => ?_⟩
  have hr := n.at_ h0 h1 h2 h3
  have e : (L2.K23.mach m st rs).R q a = some (w, v, q') := e
  rw [e] at hr
  exact n.ok _ (List.mem_of_getElem? hr)
def tapeF (m st : Int) (l : Addr) : List (Str × V) := [("marks", .int m), ("states", .int st), ("_rows", .ref l)]
def TapeAt (C : Addr) (H : Hp) (T : Addr) (m st : Int) (rs : List Row3) : Prop := ∃ (dx l : Addr) (xs : List V), H T = some (.ins C dx (tapeF m st l)) ∧ H l = some (.lst xs) ∧ RowsOf H xs rs
theorem TapeAt.mono {C : Addr} {H H' : Hp} {T : Addr} {m st : Int} {rs : List Row3} (h : TapeAt C H T m st rs) (s : Same H H') : TapeAt C H' T m st rs := by
  obtain ⟨dx, l, xs, h1, h2, h3⟩ := h
  exact ⟨dx, l, xs, s _ _ h1, s _ _ h2, h3.mono fun b ys e => s _ _ e⟩
structure TapeTxt (K : PySem.W.Frag) (C : Addr) : Prop where
  cl : Cls K C
  nM : NoAttr K C "marks"
  nS : NoAttr K C "states"
  nR : NoAttr K C "_rows"
section
variable {P : Program} {w : World} {K : PySem.W.Frag} {mg : Str → Option Value} {base : Heap} {C : Addr}
/-! ### row -/
theorem scRow : FnScope ["self", "state", "mark"] ["self", "state", "mark"] (defScope sRow) := ⟨rfl, rfl, rfl, by decide +kernel, rfl, by decide +kernel, by decide +kernel⟩
def spRow (C : Addr) : Sp := fun vs H Q _ => ∃ (T : Addr) (m st q a : Int) (rs : List Row3), vs = [.ref T, .int q, .int a] ∧ TapeAt C H T m st rs ∧ Nums m st rs ∧ 0 ≤ q ∧ q < st ∧ 0 ≤ a ∧ a < m ∧ ∀ v, RowV H v ((mach m st rs).R q a) → Q v H
theorem ok_row {f : Addr} {fd : FuncData} (F : Fun K "row" "Tape.row" sRow f fd) (T : TapeTxt K C) (cI : C8.Cal P w K mg base 1 "is_integer" spIsInteger []) : FnOk P w K mg base CX0 2 f fd ["self", "state", "mark"] (spRow C) := by
  refine F.ok scRow (fun vs H Q E h => ?_) (fun cdv A outer s H vs Q E hr h => ?_)
  · obtain ⟨t, m, st, q, a, rs, rfl, _⟩ := h
    rfl
  · obtain ⟨t, m, st, q, a, rs, rfl, ⟨dx, l, xs, ht, hl, ro⟩, n, q0, q1, a0, a1, hq⟩ := h
    obtain ⟨b0, b1⟩ := ix_bound q0 q1 a0 a1 n.m2
    obtain ⟨v, hv, rv⟩ := ro.at_ _ _ (n.at_ q0 q1 a0 a1)
    have m5 := n.m5
    have s4 := n.s4
    refine ⟨_, pss_cons (ps_if (PW.pt (pw_or (pt_not (pt_val (C8.pe_c cI hr (by decide) (by rfl) (pa_cons (pv 1) (pa_cons pe_int (pa_cons (pe_op op_sub (pe_fld (pv 0) rfl) pe_int) pa_nil))))))
        (pw_or1 (pt_not (pt_val (C8.pe_c cI hr (by decide) (by rfl) (pa_cons (pv 2) (pa_cons pe_int (pa_cons (pe_op op_sub (pe_fld (pv 0) rfl) pe_int) pa_nil))))))))) (pss_one ps_never) pss_nil)
      (pss_one (ps_ret (pe_ix ix_list (pe_fld (pv 0) rfl) (pe_op op_add (pe_op op_mul (pv 1) (pe_fld (pv 0) rfl)) (pv 2)) (fun _ _ => rfl)))), ?_⟩
    refine ⟨_, rfl, _, rfl, t, C, dx, _, _, rfl, ht, T.cl, T.nS, by rfl, _, _, rfl, rfl, q, 0, st - 1, rfl, q0, by omega, _, rfl, iteF ?_⟩
    refine ⟨_, rfl, _, rfl, t, C, dx, _, _, rfl, ht, T.cl, T.nM, by rfl, _, _, rfl, rfl, a, 0, m - 1, rfl, a0, by omega, _, rfl, iteF ?_⟩
    refine ⟨_, rfl, t, C, dx, _, _, rfl, ht, T.cl, T.nR, by rfl, _, rfl, _, rfl, t, C, dx, _, _, rfl, ht, T.cl, T.nM, by rfl, _, _, rfl, rfl, .inl ⟨by omega, by omega⟩, _, rfl, _, _, rfl, rfl, l, xs, _, v, rfl, rfl, sqL hl, ?_, hq v rv⟩
    exact at_of (j := (q * m + a).toNat) (by omega) hv
/-! ### _is_row -/
theorem scIsRow : FnScope ["self", "row"] ["self", "row"] (defScope sIsRow) := ⟨rfl, rfl, rfl, by decide +kernel, rfl, by decide +kernel, by decide +kernel⟩
def spIsRow (C : Addr) : Sp := fun vs H Q _ => ∃ (T dx p : Addr) (m st : Int) (w mv q : Int), vs = [.ref T, .ref p] ∧ H T = some (.ins C dx [("marks", .int m), ("states", .int st)]) ∧ H p = some (.tup [.int w, .int mv, .int q]) ∧ RowOk m st (some (w, mv, q)) ∧ Q (.bl true) H
theorem ok_isRow {f : Addr} {fd : FuncData} (F : Fun K "_is_row" "Tape._is_row" sIsRow f fd) (T : TapeTxt K C) (B : Bi mg) (cI : C8.Cal P w K mg base 1 "is_integer" spIsInteger []) : FnOk P w K mg base CX0 2 f fd ["self", "row"] (spIsRow C) := by
  refine F.ok scIsRow (fun vs H Q E h => ?_) (fun cdv A outer s H vs Q E hr h => ?_)
  · obtain ⟨t, dx, p, m, st, w, mv, q, rfl, _⟩ := h
    rfl
  · obtain ⟨t, dx, p, m, st, w, mv, q, rfl, ht, hp, ⟨w0, w1, hmv, q0, q1⟩, hq⟩ := h
    have gp : ∀ {i : Nat} {z : V}, [V.int w, V.int mv, V.int q][i]? = some z → ∀ R : VK, R z H → rIxT K (.ref p) (.int (i : Int)) H R := fun {i z} e R r => ⟨p, _, _, _, rfl, rfl, sqT hp, atI_nat e, r⟩
    refine ⟨_, pss_cons (ps_if (PW.pt (pw_or (pt_not (pt_val (pe_callB call_isi (by rfl) B.isinstance boot_isinstance (pa_cons (pv 1) (pa_cons (pe_bltn (v := .ty "tuple") (by rfl) B.tuple boot_tuple rfl) pa_nil)))))
        (pw_or1 (pt_cmpR op_ne (pe_callB call_len_seq (by rfl) B.len PySem.boot_len (pa_cons (pv 1) pa_nil)) pe_int (nomark _))))) (pss_one ps_never) pss_nil)
      (pss_cons (ps_if (PW.pt (pw_or (pt_not (pt_val (C8.pe_c cI hr (by decide) (by rfl) (pa_cons (pe_ix (ix_tupK K) (pv 1) pe_int (fun _ _ => rfl)) (pa_cons (pe_un un_neg pe_int) (pa_cons pe_int pa_nil))))))
        (pw_or1 (pt_cmpR op_eq (pe_ix (ix_tupK K) (pv 1) pe_int (fun _ _ => rfl)) pe_int (nomark _))))) (pss_one ps_never) pss_nil)
      (pss_one (ps_ret (pe_and (C8.pe_c cI hr (by decide) (by rfl) (pa_cons (pe_ix (ix_tupK K) (pv 1) pe_int (fun _ _ => rfl)) (pa_cons pe_int (pa_cons (pe_op op_sub (pe_fld (pv 0) rfl) pe_int) pa_nil))))
        (pe_one (C8.pe_c cI hr (by decide) (by rfl) (pa_cons (pe_ix (ix_tupK K) (pv 1) pe_int (fun _ _ => rfl)) (pa_cons pe_int (pa_cons (pe_op op_sub (pe_fld (pv 0) rfl) pe_int) pa_nil))))))))), ?_⟩
    refine ⟨_, rfl, _, _, _, _, true, rfl, .ty _, .base (.tup hp), kit_ty (by decide +kernel), _, rfl, iteF ?_⟩
    refine ⟨_, rfl, p, _, rfl, .inr (sqT hp), rfl, _, rfl, ?_⟩
    refine iteF ?_
    refine ⟨_, rfl, p, _, 1, _, rfl, rfl, sqT hp, atI_nat (j := 1) rfl, 1, rfl, mv, -1, 1, rfl, by omega, by omega, _, rfl, iteF ?_⟩
    refine ⟨_, rfl, p, _, 1, _, rfl, rfl, sqT hp, atI_nat (j := 1) rfl, rfl, _, rfl, ?_⟩
    rw [decide_eq_false (fun e => by have := V.int.inj e; omega)]
    refine iteF ?_
    refine ⟨_, rfl, p, _, 0, _, rfl, rfl, sqT hp, atI_nat (j := 0) rfl, _, rfl, t, C, dx, _, _, rfl, ht, T.cl, T.nM, by rfl, _, _, rfl, rfl, w, 0, m - 1, rfl, w0, by omega, _, rfl, iteT ?_⟩
    exact ⟨_, rfl, p, _, 2, _, rfl, rfl, sqT hp, atI_nat (j := 2) rfl, _, rfl, t, C, dx, _, _, rfl, ht, T.cl, T.nS, by rfl, _, _, rfl, rfl, q, 0, st - 1, rfl, q0, by omega, hq⟩
/-! ### __init__ -/
theorem scTapeInit : FnScope ["self", "marks", "states", "rows", "row"] ["self", "marks", "states", "rows"] (defScope sTapeInit) := ⟨rfl, rfl, rfl, by decide +kernel, rfl, by decide +kernel, by decide +kernel⟩
def spTapeInit (C : Addr) : Sp := fun vs H Q _ => ∃ (T dx l : Addr) (m st : Int) (xs : List V) (rs : List Row3), vs = [.ref T, .int m, .int st, .ref l] ∧ H T = some (.ins C dx []) ∧ H l = some (.lst xs) ∧ RowsOf H xs rs ∧ Nums m st rs ∧
  ∀ H', TapeAt C H' T m st rs → (∀ b o, H b = some o → b ≠ T → H' b = some o) → Q .non H'
theorem ok_tapeInit {f : Addr} {fd : FuncData} (F : Fun K "__init__" "Tape.__init__" sTapeInit f fd) (T : TapeTxt K C) (B : Bi mg) (Z : Cs mg) (cI : C8.Cal P w K mg base 1 "is_integer" spIsInteger [])
    (cR : C8.Met P w K mg base 2 C "_is_row" (spIsRow C) []) : FnOk P w K mg base CX0 3 f fd ["self", "marks", "states", "rows"] (spTapeInit C) := by
  refine F.ok scTapeInit (fun vs H Q E h => ?_) (fun cdv A outer s H vs Q E hr h => ?_)
  · obtain ⟨t, dx, l, m, st, xs, rs, rfl, _⟩ := h
    rfl
  · obtain ⟨t, dx, l, m, st, xs, rs, rfl, ht, hl, ro, n, hq⟩ := h
    have m2 := n.m2
    have m5 := n.m5
    have s1 := n.s1
    have s4 := n.s4
    have nl := n.len
    have tl : l ≠ t := ne_of hl ht (by intro z; cases z)
    refine ⟨_, pss_cons (ps_if (PW.pt (pw_or (pt_not (pt_val (C8.pe_c cI hr (by decide) (by rfl) (pa_cons (pv 1) (pa_cons pe_int (pa_cons (C8.pe_gc (by rfl) Z.marks) pa_nil))))))
        (pw_or1 (pt_not (pt_val (C8.pe_c cI hr (by decide) (by rfl) (pa_cons (pv 2) (pa_cons pe_int (pa_cons (C8.pe_gc (by rfl) Z.states) pa_nil))))))))) (pss_one ps_never) pss_nil)
      (pss_cons (ps_if (pt_cmpR op_ne (pe_callB call_len_seq (by rfl) B.len PySem.boot_len (pa_cons (pv 3) pa_nil)) (pe_op op_mul (pv 1) (pv 2)) (nomark _)) (pss_one ps_never) pss_nil)
      (pss_cons (ps_fld (pv 0) (pv 1) rfl)
      (pss_cons (ps_fld (pv 0) (pv 2) rfl)
      (pss_cons (ps_for PassesOwn.never rfl (pi_list (pv 3)) (pg_name (i := 4) scTapeInit.nd rfl (Or.inl rfl))
        (pss_one (ps_if (PW.pt (pw_and (pt_cmpR op_notN (pv 4) pe_non (nomark _)) (pw_and1 (pt_not (pt_val (C8.pe_mt cR hr (by decide) (pv 0) (pa_cons (pv 4) pa_nil))))))) (pss_one ps_never) pss_nil)))
      (pss_one (ps_fld (pv 0) (pe_callTy call_list_of (by rfl) B.list boot_list (pa_cons (pv 3) pa_nil)) rfl)))))), ?_⟩
    refine ⟨_, rfl, m, 2, 16, rfl, m2, by omega, _, rfl, iteF ?_⟩
    refine ⟨_, rfl, st, 1, 4000, rfl, s1, by omega, _, rfl, iteF ?_⟩
    refine ⟨_, rfl, l, _, rfl, .inl (sqL hl), _, rfl, _, rfl, _, _, rfl, rfl, .inl ⟨by omega, by omega⟩, rfl, _, rfl, ?_⟩
    have e : (xs.length : Int) = m * st := by
      rw [ro.len]
      exact nl
    refine iteNS (by rw [e]) ?_
    refine ⟨_, rfl, _, rfl, t, C, dx, _, rfl, ht, T.cl, T.nM, by show 0 < 1000; decide, ?_⟩
    refine ⟨_, rfl, _, rfl, t, C, dx, _, rfl, upd_same, T.cl, T.nS, by show 1 < 1000; decide, ?_⟩
    rw [upd_upd]
    have hl2 : ∀ o, upd H t o l = some (.lst xs) := fun o => by rw [upd_ne tl]; exact hl
    have ro2 : ∀ o, RowsOf (upd H t o) xs rs := fun o => ro.mono fun b ys eb => by rw [upd_ne (ne_of eb ht (by intro z; cases z))]; exact eb
    refine ⟨_, rfl, l, rfl, ⟨_, sqL (hl2 _)⟩, for_list (K := K) (a := l) (xs := xs) (fun i σ H2 => (∃ y, σ = [some (.ref t), some (.int m), some (.int st), some (.ref l), y]) ∧ H2 = upd H t (.ins C dx [("marks", .int m), ("states", .int st)])) ⟨⟨none, rfl⟩, rfl⟩ (fun i σ H2 _ ⟨_, e2⟩ => by rw [e2]; exact sqL (hl2 _)) ?_ ?_⟩
    · rintro i y σ H2 hy ⟨⟨y0, rfl⟩, rfl⟩
      have lt : i < rs.length := by
        rw [← ro.len]
        exact (List.getElem?_eq_some_iff.mp hy).1
      obtain ⟨v, hv, rv⟩ := (ro2 (.ins C dx [("marks", .int m), ("states", .int st)])).at_ i rs[i] (List.getElem?_eq_getElem lt)
      rw [hy] at hv
      cases hv
      have okr := n.ok rs[i] (List.getElem_mem lt)
      refine ⟨_, rfl, rfl, _, rfl, ?_⟩
      cases er : rs[i] with
      | none =>
        rw [er] at rv
        cases rv
        exact iteF (iteF ⟨⟨_, rfl⟩, rfl⟩)
      | some z =>
        obtain ⟨w1, mv, q⟩ := z
        rw [er] at rv okr
        obtain ⟨p, rfl, hp⟩ := rv
        refine iteT ⟨_, rfl, t, dx, _, rfl, upd_same, by rfl, _, rfl, t, dx, p, m, st, w1, mv, q, rfl, upd_same, hp, okr, _, rfl, iteF ?_⟩
        exact ⟨⟨_, rfl⟩, rfl⟩
    · rintro σ H2 ⟨⟨y0, rfl⟩, rfl⟩
      refine ⟨_, rfl, l, _, rfl, .inl (sqL (hl2 _)), fun l2 nl2 => ?_⟩
      have nt : l2 ≠ t := fun e2 => by
        rw [e2, upd_same] at nl2
        cases nl2
      have n2 : H l2 = none := by rwa [upd_ne nt] at nl2
      refine ⟨_, rfl, t, C, dx, _, rfl, by rw [upd_ne nt.symm]; exact upd_same, T.cl, T.nR, by show 2 < 1000; decide, ?_⟩
      refine hq _ ⟨dx, l2, xs, upd_same, by rw [upd_ne nt, upd_same], ro.mono fun b ys eb => ?_⟩ fun b o eb hb => ?_
      · rw [upd_ne (ne_of eb ht (by intro z; cases z)), upd_ne (ne_of_none eb n2), upd_ne (ne_of eb ht (by intro z; cases z))]
        exact eb
      · rw [upd_ne hb, upd_ne (ne_of_none eb n2), upd_ne hb]
        exact eb
end
end L2.K23
set_option Elab.async false
set_option linter.all false
set_option maxRecDepth 100000
set_option maxHeartbeats 4000000
/-! tiles_of. -/
namespace L2.K23
open PySem PySem.Spec PyProof.Rows
open _root_.K23 (T4 Mach Cfg blank blanks part line)
/-! ### a list of tiles that grows -/
theorem refs_snoc (as : List (Addr × T4)) (p : Addr) (t : T4) : refs as ++ [V.ref p] = refs (as ++ [(p, t)]) := by
  rw [refs, refs, List.map_append]
  rfl
theorem grow_at {H : Hp} {L p : Addr} {as : List (Addr × T4)} {t : T4} (st : Stand H as) (hL : H L = some (.lst (refs as))) (np : H p = none) : upd (upd H p (TileO t)) L (.lst (refs as ++ [V.ref p])) L = some (.lst (refs (as ++ [(p, t)]))) ∧
    Stand (upd (upd H p (TileO t)) L (.lst (refs as ++ [V.ref p]))) (as ++ [(p, t)]) := by
  refine ⟨by rw [upd_same, refs_snoc as p t], fun x hx => ?_⟩
  have pL : p ≠ L := fun e => by
    rw [e, hL] at np
    cases np
  rcases List.mem_append.mp hx with hx | hx
  · have h := st x hx
    rw [upd_ne (ne_of h hL (by intro z; cases z)), upd_ne (ne_of_none h np)]
    exact h
  · rw [List.mem_singleton.mp hx, upd_ne pL]
    exact upd_same
theorem same_two {H0 H : Hp} {L p : Addr} {o u : HO} (s : Same H0 H) (nL : H0 L = none) (np : H p = none) : Same H0 (upd (upd H p o) L u) := fun b z e => by
  rw [upd_ne (ne_of_none e nL), upd_ne (ne_of_none e (s.free np))]
  exact s b z e
/-- the list at L holds these tiles, all that stood in H0 stands -/
structure Made (H0 H : Hp) (L : Addr) (ts : List T4) : Prop where
  same : Same H0 H
  is : ∃ as : List (Addr × T4), as.map (·.2) = ts ∧ H L = some (.lst (refs as)) ∧ Stand H as
theorem Made.grow {H0 H : Hp} {L p : Addr} {ts : List T4} {acc : List V} (m : Made H0 H L ts) (nL : H0 L = none) (np : H p = none) (t : T4) (hacc : H L = some (.lst acc)) : Made H0 (upd (upd H p (TileO t)) L (.lst (acc ++ [V.ref p]))) L (ts ++ [t]) := by
  obtain ⟨as, e, hL, st⟩ := m.is
  rw [hacc] at hL
  cases hL
  obtain ⟨h1, h2⟩ := grow_at (t := t) st hacc np
  exact ⟨same_two m.same nL np, as ++ [(p, t)], by rw [List.map_append, e]; rfl, h1, h2⟩
theorem Made.list {H0 H : Hp} {L : Addr} {ts : List T4} (m : Made H0 H L ts) : ∃ acc, H L = some (.lst acc) ∧ acc.length = ts.length := by
  obtain ⟨as, e, hL, _⟩ := m.is
  exact ⟨_, hL, by rw [List.length_map, ← e, List.length_map]⟩
section
variable {P : Program} {w : World} {K : PySem.W.Frag} {mg : Str → Option Value} {base : Heap} {C : Addr}
theorem scTilesOf : FnScope ["machine", "marks", "mark", "found", "state", "head", "row"] ["machine"] (defScope sTilesOf) := ⟨rfl, rfl, rfl, by decide +kernel, rfl, by decide +kernel, by decide +kernel⟩
def spTilesOf (C : Addr) : Sp := fun vs H Q _ => ∃ (T : Addr) (m st : Int) (rs : List Row3), vs = [.ref T] ∧ TapeAt C H T m st rs ∧ Nums m st rs ∧ ∀ H' L, H L = none → Made H H' L (_root_.K23.all (mach m st rs) st.toNat) → Q (.ref L) H'
theorem ok_tilesOf {f : Addr} {fd : FuncData} (F : Fun K "tiles_of" "tiles_of" sTilesOf f fd) (T : TapeTxt K C) (B : Bi mg) (cL : C8.Cal P w K mg base 1 "letter_of" spLetterOf []) (cR : C8.Met P w K mg base 2 C "row" (spRow C) []) :
    FnOk P w K mg base CX0 3 f fd ["machine"] (spTilesOf C) := by
  refine F.ok scTilesOf (fun vs H Q E h => ?_) (fun cdv A outer s H vs Q E hr h => ?_)
  · obtain ⟨t, m, st, rs, rfl, _⟩ := h
    rfl
  · obtain ⟨t, m, st, rs, rfl, ht, n, hq⟩ := h
    have m2 := n.m2
    have m5 := n.m5
    have s1 := n.s1
    have s4 := n.s4
    have mok := n.mach
    have ht0 := ht
    obtain ⟨dx, l, xs, h1, _⟩ := ht0
    generalize hM : mach m st rs = M at hq mok
    have eM : M.m = m := by
      rw [← hM]
      rfl
    have eS : M.st = st := by
      rw [← hM]
      rfl
    refine ⟨_, pss_cons (ps_set (i := 1) scTilesOf.nd rfl (Or.inl rfl) (pe_fld (pv 0) rfl))
      (pss_cons (ps_setLc (i := 3) (own := [("mark", 2)]) (g := gName 2) (by rfl) scTilesOf.nd rfl rfl (sw_true rfl rfl rfl (by decide +kernel)) (pi_range1 (by rfl) B.range (pa_cons (pv 1) pa_nil))
        (blkOk_by (N := ["machine", "marks", "mark", "found", "state", "head", "row"]) (sc := defScope sTilesOf) (by decide +kernel)) (fun _ _ _ _ _ => pg_name (i := 2) scTilesOf.nd rfl (Or.inl rfl)) (fun _ _ _ _ _ => pts_nil)
        (fun _ _ _ _ _ => pe_tup (pa_cons pe_int (pa_cons (pv 2) (pa_cons pe_int (pa_cons (pv 2) pa_nil))))))
      (pss_cons (ps_for PassesOwn.never rfl (pi_range1 (by rfl) B.range (pa_cons (pe_fld (pv 0) rfl) pa_nil)) (pg_name (i := 4) scTilesOf.nd rfl (Or.inl rfl))
        (pss_one (ps_for PassesOwn.never rfl (pi_range1 (by rfl) B.range (pa_cons (pv 1) pa_nil)) (pg_name (i := 2) scTilesOf.nd rfl (Or.inl rfl))
          (pss_cons (ps_set (i := 5) scTilesOf.nd rfl (Or.inl rfl) (C8.pe_c cL hr (by decide) (by rfl) (pa_cons (pv 1) (pa_cons (pv 2) (pa_cons (pv 4) pa_nil)))))
          (pss_cons (ps_expr (pe_bm PySem.F.plainAttrs_list PySem.F.slot_list_append PySem.F.type_list_append mt_append (pv 3)
            (pa_cons (pe_tup (pa_cons pe_int (pa_cons (pv 5) (pa_cons (pe_op op_add pe_int (pe_op op_mul pe_int (pv 4))) (pa_cons (pv 2) pa_nil))))) pa_nil)))
          (pss_cons (ps_expr (pe_bm PySem.F.plainAttrs_list PySem.F.slot_list_append PySem.F.type_list_append mt_append (pv 3)
            (pa_cons (pe_tup (pa_cons (pe_op op_add pe_int (pe_op op_mul pe_int (pv 4))) (pa_cons (pv 5) (pa_cons pe_int (pa_cons (pv 2) pa_nil))))) pa_nil)))
          (pss_cons (ps_set (i := 6) scTilesOf.nd rfl (Or.inl rfl) (C8.pe_mt cR hr (by decide) (pv 0) (pa_cons (pv 4) (pa_cons (pv 2) pa_nil))))
          (pss_one (ps_if (PW.pt (pw_and (pt_cmpR op_notN (pv 6) pe_non (nomark _)) (pw_and1 (pt_cmpR op_eq (pe_ix (ix_tupK K) (pv 6) pe_int (fun _ _ => rfl)) pe_int (nomark _)))))
            (pss_one (ps_expr (pe_bm PySem.F.plainAttrs_list PySem.F.slot_list_append PySem.F.type_list_append mt_append (pv 3)
              (pa_cons (pe_tup (pa_cons (pe_op op_add pe_int (pe_op op_mul pe_int (pe_ix (ix_tupK K) (pv 6) pe_int (fun _ _ => rfl)))) (pa_cons (pe_ix (ix_tupK K) (pv 6) pe_int (fun _ _ => rfl)) (pa_cons pe_int (pa_cons (pv 5) pa_nil))))) pa_nil))))
            (pss_one (ps_if (pt_cmpR op_notN (pv 6) pe_non (nomark _))
              (pss_one (ps_expr (pe_bm PySem.F.plainAttrs_list PySem.F.slot_list_append PySem.F.type_list_append mt_append (pv 3)
                (pa_cons (pe_tup (pa_cons pe_int (pa_cons (pe_ix (ix_tupK K) (pv 6) pe_int (fun _ _ => rfl)) (pa_cons (pe_op op_add pe_int (pe_op op_mul pe_int (pe_ix (ix_tupK K) (pv 6) pe_int (fun _ _ => rfl)))) (pa_cons (pv 5) pa_nil))))) pa_nil))))
              pss_nil)))))))))))
      (pss_one (ps_ret (pv 3))))), ?_⟩
    -- marks = machine.marks
    refine ⟨_, rfl, t, C, dx, _, _, rfl, h1, T.cl, T.nM, by rfl, ?_⟩
    -- found = [..]
    refine ⟨_, rfl, m, rfl, by omega, by omega, fun L nL => ?_⟩
    refine lc_range (lo := 0) (n := m.toNat) (fun i H2 => Made H H2 L (blanks i)) ⟨same_upd nL, [], rfl, upd_same, fun x hx => by cases hx⟩ (fun i H2 hi md => ?_) (fun H2 md => ?_)
    · refine ⟨rfl, ?_⟩
      refine ⟨_, rfl, _, rfl, le_line (show 4 ≤ 100000 by decide), fun p np => ?_⟩
      obtain ⟨acc, hacc, len⟩ := md.list
      have pL : L ≠ p := ne_of_none hacc np
      refine ⟨acc, by rw [upd_ne pL]; exact hacc, ?_, ?_⟩
      · rw [len]
        unfold blanks
        rw [List.length_map, List.length_range]
        exact lt_line (by omega)
      · have := md.grow nL np (blank (i : Int)) hacc
        rw [_root_.K23.blanks_succ]
        have e0 : (0 : Int) + (i : Int) = (i : Int) := by omega
        rw [e0]
        exact this
    -- for state in range(machine.states)
    · have ht2 := ht.mono md.same
      obtain ⟨dx2, l2, xs2, h2, _⟩ := ht2
      refine ⟨_, rfl, t, C, dx2, _, _, rfl, h2, T.cl, T.nS, by rfl, st, rfl, by omega, by omega, ?_⟩
      refine for_range (lo := 0) (n := st.toNat) (fun i σ H3 => (∃ y2 y4 y5 y6, σ = [some (.ref t), some (.int m), y2, some (.ref L), y4, y5, y6]) ∧ Made H H3 L (_root_.K23.all M i)) ⟨⟨_, _, _, _, rfl⟩, ?_⟩ ?_ ?_
      · unfold _root_.K23.all
        rw [eM, List.range_zero, List.flatMap_nil, List.append_nil]
        exact md
      · rintro i σ H3 hi ⟨⟨y2, y4, y5, y6, rfl⟩, md3⟩
        -- for mark in range(marks)
        refine ⟨_, rfl, m, rfl, by omega, by omega, ?_⟩
        refine for_range (lo := 0) (n := m.toNat) (fun j σ H4 => (∃ y2 y5 y6, σ = [some (.ref t), some (.int m), y2, some (.ref L), some (.int (i : Int)), y5, y6]) ∧ Made H H4 L (_root_.K23.all M i ++ line M (i : Int) j)) ⟨⟨y2, y5, y6, ?_⟩, ?_⟩ ?_ ?_
        · have e0 : (0 : Int) + (i : Int) = (i : Int) := by omega
          rw [e0]
          rfl
        · have : line M (i : Int) 0 = [] := rfl
          rw [this, List.append_nil]
          exact md3
        · rintro j σ H4 hj ⟨⟨y2, y5, y6, rfl⟩, md4⟩
          have e0 : (0 : Int) + (j : Int) = (j : Int) := by omega
          rw [e0]
          have bound : ∀ {ts : List T4}, ts.length ≤ 1000 → ts.length < sizeLine := fun h => lt_line (by omega)
          have lenA : (_root_.K23.all M i ++ line M (i : Int) j).length ≤ 100 := by
            have := _root_.K23.all_len mok i
            have := _root_.K23.line_len (M := M) (i : Int) j
            rw [List.length_append]
            omega
          -- head = letter_of(marks, mark, state)
          refine ⟨_, rfl, _, rfl, _, rfl, m, (j : Int), (i : Int), rfl, m2, m5, ?_⟩
          have eh : m * ((i : Int) + 1) + (j : Int) = M.let (i : Int) (j : Int) := by
            rw [← eM]
            rfl
          rw [eh]
          -- found.append((0, head, 1 + 2 * state, mark))
          obtain ⟨acc, hacc, len⟩ := md4.list
          refine ⟨_, rfl, .inl ⟨rfl, _, sqL hacc⟩, _, rfl, _, rfl, _, _, rfl, rfl, .inl ⟨by decide, by decide⟩, _, _, rfl, rfl, _, rfl, le_line (show 4 ≤ 100000 by decide), fun p np => ?_⟩
          have pL : L ≠ p := ne_of_none hacc np
          refine ⟨L, acc, _, rfl, rfl, by rw [upd_ne pL]; exact hacc, by rw [len]; exact bound (by omega), ?_⟩
          have md5 := md4.grow (nL) np ⟨0, M.let (i : Int) (j : Int), 1 + 2 * (i : Int), (j : Int)⟩ hacc
          -- found.append((2 + 2 * state, head, 0, mark))
          obtain ⟨acc2, hacc2, len2⟩ := md5.list
          refine ⟨_, rfl, .inl ⟨rfl, _, sqL hacc2⟩, _, rfl, _, _, rfl, rfl, .inl ⟨by decide, by decide⟩, _, _, rfl, rfl, _, rfl, _, rfl, le_line (show 4 ≤ 100000 by decide), fun p2 np2 => ?_⟩
          have pL2 : L ≠ p2 := ne_of_none hacc2 np2
          refine ⟨L, acc2, _, rfl, rfl, by rw [upd_ne pL2]; exact hacc2, by rw [len2, List.length_append, List.length_singleton]; exact lt_line (by omega), ?_⟩
          have md6 := md5.grow (nL) np2 ⟨2 + 2 * (i : Int), M.let (i : Int) (j : Int), 0, (j : Int)⟩ hacc2
          rw [List.append_assoc] at md6
          -- row = machine.row(state, mark)
          have ht6 := ht.mono md6.same
          obtain ⟨dx6, l6, xs6, h6, _⟩ := id ht6
          refine ⟨_, rfl, t, dx6, _, rfl, h6, by rfl, _, rfl, _, rfl, t, m, st, (i : Int), (j : Int), rs, rfl, ht6, n, by omega, by omega, by omega, by omega, fun v hv => ?_⟩
          rw [hM] at hv
          rw [_root_.K23.line_succ, ← List.append_assoc]
          have eP : part M (i : Int) (j : Int) = [⟨0, M.let (i : Int) (j : Int), 1 + 2 * (i : Int), (j : Int)⟩] ++ [⟨2 + 2 * (i : Int), M.let (i : Int) (j : Int), 0, (j : Int)⟩] ++ (match M.R (i : Int) (j : Int) with
            | none => []
            | some (w, v, q') => if v = 1 then [⟨1 + 2 * q', w, 0, M.let (i : Int) (j : Int)⟩] else [⟨0, w, 2 + 2 * q', M.let (i : Int) (j : Int)⟩]) := rfl
          rw [eP]
          obtain ⟨acc3, hacc3, len3⟩ := md6.list
          have lt3 : acc3.length < sizeLine := by
            rw [len3, List.length_append, List.length_append]
            refine lt_line ?_
            simp at lenA ⊢
            omega
          cases hR : M.R (i : Int) (j : Int) with
          | none =>
            rw [hR] at hv
            cases hv
            refine ⟨_, rfl, rfl, _, rfl, iteF (iteF ?_)⟩
            refine ⟨_, rfl, rfl, _, rfl, iteF ⟨⟨_, _, _, rfl⟩, ?_⟩⟩
            rw [List.append_nil]
            exact md6
          | some z =>
            obtain ⟨w1, v1, q1⟩ := z
            rw [hR] at hv
            obtain ⟨r, rfl, hr0⟩ := hv
            obtain ⟨w0, w1', hv1, q0, q1'⟩ := mok.row _ _ w1 v1 q1 (by omega) (by omega) (by omega) (by omega) hR
            refine ⟨_, rfl, rfl, _, rfl, iteT ⟨_, rfl, r, _, 1, _, rfl, rfl, sqT hr0, atI_nat (j := 1) rfl, rfl, _, rfl, ?_⟩⟩
            refine ite2 (fun e => ?_) (fun e => ?_)
            · have e1 : v1 = 1 := V.int.inj (of_decide_eq_true e)
              subst e1
              refine ⟨_, rfl, .inl ⟨rfl, _, sqL hacc3⟩, _, rfl, r, _, 2, _, rfl, rfl, sqT hr0, atI_nat (j := 2) rfl, _, _, rfl, rfl, .inl ⟨by decide, by decide⟩, _, _, rfl, rfl, _, rfl, r, _, 0, _, rfl, rfl, sqT hr0, atI_nat (j := 0) rfl, _, rfl, le_line (show 4 ≤ 100000 by decide), fun p3 np3 => ?_⟩
              have pL3 : L ≠ p3 := ne_of_none hacc3 np3
              refine ⟨L, acc3, _, rfl, rfl, by rw [upd_ne pL3]; exact hacc3, lt3, ⟨_, _, _, rfl⟩, ?_⟩
              have md7 := md6.grow nL np3 ⟨1 + 2 * q1, w1, 0, M.let (i : Int) (j : Int)⟩ hacc3
              rw [List.append_assoc] at md7
              exact md7
            · have e1 : ¬ v1 = 1 := fun e2 => e (decide_eq_true (congrArg V.int e2))
              refine ⟨_, rfl, rfl, _, rfl, iteT ?_⟩
              refine ⟨_, rfl, .inl ⟨rfl, _, sqL hacc3⟩, _, rfl, r, _, 0, _, rfl, rfl, sqT hr0, atI_nat (j := 0) rfl, _, rfl, r, _, 2, _, rfl, rfl, sqT hr0, atI_nat (j := 2) rfl, _, _, rfl, rfl, .inl ⟨by decide, by decide⟩, _, _, rfl, rfl, _, rfl, le_line (show 4 ≤ 100000 by decide), fun p3 np3 => ?_⟩
              have pL3 : L ≠ p3 := ne_of_none hacc3 np3
              refine ⟨L, acc3, _, rfl, rfl, by rw [upd_ne pL3]; exact hacc3, lt3, ⟨_, _, _, rfl⟩, ?_⟩
              have md7 := md6.grow nL np3 ⟨0, w1, 2 + 2 * q1, M.let (i : Int) (j : Int)⟩ hacc3
              rw [List.append_assoc] at md7
              show Made _ _ _ (_ ++ (_ ++ if v1 = 1 then _ else _))
              rw [if_neg e1]
              exact md7
        · rintro σ H4 ⟨⟨y2, y5, y6, rfl⟩, md4⟩
          refine ⟨⟨_, _, _, _, rfl⟩, ?_⟩
          rw [_root_.K23.all_succ, eM]
          exact md4
      · rintro σ H3 ⟨⟨y2, y4, y5, y6, rfl⟩, md3⟩
        exact ⟨_, rfl, hq H3 L nL md3⟩
end
end L2.K23
set_option Elab.async false
set_option linter.all false
set_option maxRecDepth 100000
set_option maxHeartbeats 4000000
/-! The class Tiles; Strip and TileStair made. -/
namespace L2.K23
open PySem PySem.Spec PyProof.Rows
open _root_.K23 (T4 Mach Cfg)
/-! ### tiles as data and as keys -/
def tileD (t : T4) : PyData := .tuple [.int t.e, .int t.n, .int t.w, .int t.s]
def tileK (t : T4) : List Key := [.inl t.e, .inl t.n, .inl t.w, .inl t.s]
theorem tileK_inj {t u : T4} (h : tileK t = tileK u) : t = u := by
  obtain ⟨e, n, w, s⟩ := t
  obtain ⟨e', n', w', s'⟩ := u
  unfold tileK at h
  simp at h
  obtain ⟨rfl, rfl, rfl, rfl⟩ := h
  rfl
theorem tile_dp {K : PySem.W.Frag} {H : Hp} {a : Addr} {t : T4} (h : H a = some (TileO t)) : Dp K H (.ref a) (tileD t) :=
  .tup (sqT h) (.cons (.int _) (.cons (.int _) (.cons (.int _) (.cons (.int _) .nil))))
theorem tile_shaped (t : T4) : SeqAt.shaped (tileD t) = true := by
  unfold SeqAt.shaped tileD
  simp [PyData.canLay0, PyData.canLayAll0, PyData.depth, PyData.depthAll]
abbrev side (w s : Int) (x : Addr × T4) : Bool := decide (x.2.w = w ∧ x.2.s = s)
abbrev sideK (w s : Int) : List Key := [.inl w, .inl s]
/-- the tiles by their colours in the west and in the south -/
structure BySides (H : Hp) (kvs : List (List Key × V)) (as : List (Addr × T4)) : Prop where
  all : ∀ k v, valV kvs k = some v → ∃ (w s : Int) (l : Addr), k = sideK w s ∧ v = .ref l ∧ H l = some (.lst (refs (as.filter (side w s))))
  non : ∀ w s : Int, valV kvs (sideK w s) = none → as.filter (side w s) = []
  inj : ∀ k k2 v, valV kvs k = some v → valV kvs k2 = some v → k = k2
theorem sideK_inj {w s w2 s2 : Int} (h : sideK w s = sideK w2 s2) : w = w2 ∧ s = s2 := by
  simp at h
  exact h
def tilesF (T d : Addr) : List (Str × V) := [("tiles", .ref T), ("_by_sides", .ref d)]
/-- the object of a set of tiles -/
def TilesAt (C : Addr) (H : Hp) (S : Addr) (ts : List T4) : Prop := ∃ (dx T d : Addr) (as : List (Addr × T4)) (kvs : List (List Key × V)),
  H S = some (.ins C dx (tilesF T d)) ∧ H T = some (.tup (refs as)) ∧ Stand H as ∧ (as.map (·.2)).Perm ts ∧ H d = some (.dT kvs) ∧ BySides H kvs as
theorem BySides.mono {H H' : Hp} {kvs : List (List Key × V)} {as : List (Addr × T4)} (b : BySides H kvs as) (s : Same H H') : BySides H' kvs as :=
  ⟨fun k v h => let ⟨w, z, l, e1, e2, e3⟩ := b.all k v h; ⟨w, z, l, e1, e2, s _ _ e3⟩, b.non, b.inj⟩
theorem TilesAt.mono {C : Addr} {H H' : Hp} {S : Addr} {ts : List T4} (h : TilesAt C H S ts) (s : Same H H') : TilesAt C H' S ts := by
  obtain ⟨dx, T, d, as, kvs, h1, h2, h3, h4, h5, h6⟩ := h
  exact ⟨dx, T, d, as, kvs, s _ _ h1, s _ _ h2, h3.mono s, h4, s _ _ h5, h6.mono s⟩
structure TilesTxt (K : PySem.W.Frag) (C : Addr) : Prop where
  cl : Cls K C
  nT : NoAttr K C "tiles"
  nB : NoAttr K C "_by_sides"
theorem filter_snoc {as : List (Addr × T4)} {x : Addr × T4} {w s : Int} : (as ++ [x]).filter (side w s) = as.filter (side w s) ++ (if x.2.w = w ∧ x.2.s = s then [x] else []) := by
  rw [List.filter_append]
  congr 1
  by_cases h : x.2.w = w ∧ x.2.s = s
  · rw [if_pos h]
    simp [side, h]
  · rw [if_neg h]
    simp [side]
    intro e1 e2
    exact h ⟨e1, e2⟩
section
variable {P : Program} {w : World} {K : PySem.W.Frag} {mg : Str → Option Value} {base : Heap} {C : Addr}
/-! ### fitting -/
theorem scFitting : FnScope ["self", "west", "south"] ["self", "west", "south"] (defScope sFitting) := ⟨rfl, rfl, rfl, by decide +kernel, rfl, by decide +kernel, by decide +kernel⟩
def spFitting (C : Addr) : Sp := fun vs H Q _ => ∃ (S dx T d : Addr) (w s : Int) (as : List (Addr × T4)) (kvs : List (List Key × V)), vs = [.ref S, .int w, .int s] ∧ H S = some (.ins C dx (tilesF T d)) ∧ H d = some (.dT kvs) ∧ BySides H kvs as ∧
  ∀ H' l, Same H H' → H' l = some (.lst (refs (as.filter (side w s)))) → Q (.ref l) H'
theorem ok_fitting {f : Addr} {fd : FuncData} {k : Nat} (F : Fun K "fitting" "Tiles.fitting" sFitting f fd) (T : TilesTxt K C) : FnOk P w K mg base CX0 (k + 1) f fd ["self", "west", "south"] (spFitting C) := by
  refine F.ok scFitting (fun vs H Q E h => ?_) (fun cdv A outer s H vs Q E hr h => ?_)
  · obtain ⟨S, dx, T, d, w1, s1, as, kvs, rfl, _⟩ := h
    rfl
  · obtain ⟨S, dx, t, d, w1, s1, as, kvs, rfl, hS, hd, b, q⟩ := h
    have hu := hu_of hr
    refine ⟨_, pss_one (ps_ret (pe_dget2 hu (pe_fld (pv 0) rfl) (pe_tup (pa_cons (pv 1) (pa_cons (pv 2) pa_nil))) (pe_lst pa_nil) ⟨rfl, rfl, rfl, rfl⟩)), ?_⟩
    refine ⟨_, rfl, S, C, dx, _, _, rfl, hS, T.cl, T.nB, by rfl, d, rfl, .inr ⟨kvs, .inl hd⟩, _, rfl, _, rfl, le_line (show 2 ≤ 100000 by decide), fun p np => ⟨Nat.zero_le _, fun e ne => ?_⟩⟩
    have s2 : Same H (upd (upd H p (.tup [.int w1, .int s1])) e (.lst [])) := (same_upd np).trans (same_upd ne)
    have pe : p ≠ e := fun e1 => by
      rw [e1, upd_same] at ne
      cases ne
    refine ⟨_, DGet.t (k := sideK w1 s1) (s2 _ _ hd) (by rw [upd_ne pe, upd_same]; rfl), ?_⟩
    cases hv : valV kvs (sideK w1 s1) with
    | none =>
      refine q _ e s2 ?_
      rw [b.non _ _ hv]
      exact upd_same
    | some v =>
      obtain ⟨w2, z2, l, e1, rfl, hl⟩ := b.all _ _ hv
      obtain ⟨rfl, rfl⟩ := sideK_inj e1
      exact q _ l s2 (s2 _ _ hl)
/-! ### __init__ -/
theorem scTilesInit : FnScope ["self", "tiles", "tile"] ["self", "tiles"] (defScope sTilesInit) := ⟨rfl, rfl, rfl, by decide +kernel, rfl, by decide +kernel, by decide +kernel⟩
def spTilesInit (C : Addr) : Sp := fun vs H Q _ => ∃ (S dx L : Addr) (as : List (Addr × T4)), vs = [.ref S, .ref L] ∧ H S = some (.ins C dx []) ∧ H L = some (.lst (refs as)) ∧ Stand H as ∧ (as.map (·.2)).Nodup ∧ as.length ≤ 100 ∧
  (∀ x ∈ as, ∀ n ∈ [x.2.e, x.2.n, x.2.w, x.2.s], 0 ≤ n ∧ n ≤ 999) ∧ ∀ H', TilesAt C H' S (as.map (·.2)) → (∀ b o, H b = some o → b ≠ S → H' b = some o) → Q .non H'
theorem tile_alike (t u : T4) : PySem.W.alike (tileD t) (tileD u) = true := by
  unfold tileD
  simp [PySem.W.alike, PySem.W.alikeAll]
theorem tile_depth (t : T4) : (tileD t).depth ≤ 1 := by
  unfold tileD
  simp [PyData.depth, PyData.depthAll]
/-- all told, for a set that is being made -/
theorem bs_nil (H : Hp) : BySides H [] [] := ⟨fun k v h => by simp [valV_nil] at h, fun _ _ _ => rfl, fun k k2 v h => by simp [valV_nil] at h⟩
theorem ok_tilesInit {f : Addr} {fd : FuncData} (F : Fun K "__init__" "Tiles.__init__" sTilesInit f fd) (T : TilesTxt K C) (B : Bi mg) (Z : Cs mg) (cT : C8.Cal P w K mg base 1 "_is_tile" spIsTile []) :
    FnOk P w K mg base CX0 2 f fd ["self", "tiles"] (spTilesInit C) := by
  refine F.ok scTilesInit (fun vs H Q E h => ?_) (fun cdv A outer s H vs Q E hr h => ?_)
  · obtain ⟨S, dx, L, as, rfl, _⟩ := h
    rfl
  · obtain ⟨S, dx, L, as, rfl, hS, hL, st, nd, len, col, q⟩ := h
    have hu := hu_of hr
    have un := hr.un
    have LS : L ≠ S := ne_of hL hS (by intro z; cases z)
    have llen : (refs as).length = as.length := List.length_map _
    refine ⟨_, pss_cons (ps_if (PW.pt (pw_or (pt_cmpR op_gt (pe_callB call_len_seq (by rfl) B.len PySem.boot_len (pa_cons (pv 1) pa_nil)) (C8.pe_gc (by rfl) Z.tiles) (nomark _))
        (pw_or1 (pt_not (pt_val (pe_callB (cr_all rfl) (by rfl) B.all boot_all (pa_cons (pe_lc (own := [("tile", 2)]) (g := gName 2) (by rfl) scTilesInit.nd (pi_list (pv 1))
          (blkOk_by (N := ["self", "tiles", "tile"]) (sc := defScope sTilesInit) (by decide +kernel)) (fun _ _ _ _ _ => pg_name (i := 2) scTilesInit.nd rfl (Or.inl rfl)) (fun _ _ _ _ _ => pts_nil)
          (fun _ _ _ _ _ => C8.pe_c cT hr (by decide) (by rfl) (pa_cons (pv 2) pa_nil))) pa_nil))))))) (pss_one ps_never) pss_nil)
      (pss_cons (ps_if (pt_cmpR op_ne (pe_callB call_len_dT (by rfl) B.len PySem.boot_len (pa_cons (pe_dcT (own := [("tile", 2)]) (g := gName 2) (Nat.lt_of_le_of_lt (Nat.le_succ _) hu) (by rfl) scTilesInit.nd (pi_list (pv 1))
          (blkOk_by (N := ["self", "tiles", "tile"]) (sc := defScope sTilesInit) (by decide +kernel)) (fun _ _ _ _ _ => pg_name (i := 2) scTilesInit.nd rfl (Or.inl rfl)) (fun _ _ _ _ _ => pv 2) (fun _ _ _ _ _ => pe_bl)) pa_nil))
        (pe_callB call_len_seq (by rfl) B.len PySem.boot_len (pa_cons (pv 1) pa_nil)) (nomark _)) (pss_one ps_never) pss_nil)
      (pss_cons (ps_fld (pv 0) (pe_callTy call_tuple_of (by rfl) B.tuple boot_tuple (pa_cons (pe_callB (cr_sortedB (fun x : Addr × T4 => x.1) (fun x => tileD x.2)) (by rfl) B.sorted boot_sorted (pa_cons (pv 1) pa_nil)) pa_nil)) rfl)
      (pss_cons (ps_fld (pv 0) pe_dnewT rfl)
      (pss_one (ps_for PassesOwn.never rfl (pi_tup (pe_fld (pv 0) rfl)) (pg_name (i := 2) scTilesInit.nd rfl (Or.inl rfl))
        (pss_one (ps_expr (pe_bm PySem.F.plainAttrs_list PySem.F.slot_list_append PySem.F.type_list_append mt_append
          (pe_setdT hu (pe_fld (pv 0) rfl) (pe_tup (pa_cons (pe_ix (ix_tupK K) (pv 2) pe_int (fun _ _ => rfl)) (pa_cons (pe_ix (ix_tupK K) (pv 2) pe_int (fun _ _ => rfl)) pa_nil))) (pe_lst pa_nil) ⟨rfl, rfl, rfl, rfl⟩) (pa_cons (pv 2) pa_nil))))))))), ?_⟩
    -- len(tiles) > MOST_TILES
    refine ⟨_, rfl, L, _, rfl, .inl (sqL hL), _, _, rfl, rfl, _, rfl, ?_⟩
    rw [llen, decide_eq_false (by omega)]
    -- all([_is_tile(tile) for tile in tiles])
    refine iteF ⟨_, rfl, L, rfl, ⟨_, sqL hL⟩, fun D nD => ?_⟩
    refine lc_list (K := K) (a := L) (xs := refs as) (fun i H2 => Same H H2 ∧ H2 D = some (.lst ((List.replicate i true).map V.bl))) ⟨same_upd nD, upd_same⟩ (fun i H2 _ h2 => sqL (h2.1 _ _ hL)) (fun i x H2 hx h2 => ?_) fun H2 h2 => ?_
    · obtain ⟨y, hy, rfl, hm⟩ := refs_get hx
      have li : i < as.length := (List.getElem?_eq_some_iff.mp hy).1
      refine ⟨rfl, ?_⟩
      refine ⟨_, rfl, y.1, [y.2.e, y.2.n, y.2.w, y.2.s], rfl, h2.1 _ _ (st y hm), rfl, col y hm, fun H3 s3 => ?_⟩
      refine ⟨_, s3 _ _ h2.2, ?_, same_over (h2.1.trans s3) nD, ?_⟩
      · rw [List.length_map, List.length_replicate]
        exact lt_line (by omega)
      · rw [upd_same]
        congr 2
        rw [List.replicate_succ', List.map_append]
        rfl
    obtain ⟨s2, hD⟩ := h2
    have al : (List.replicate (refs as).length true).all id = true := by simp
    refine ⟨D, _, rfl, sqL hD, _, rfl, ?_⟩
    rw [al]
    refine iteF ?_
    -- len({tile: True for tile in tiles}) != len(tiles)
    have hL2 := s2 _ _ hL
    refine ⟨_, rfl, L, rfl, ⟨_, sqL hL2⟩, fun D2 nD2 => ?_⟩
    have key : ∀ i, i ≤ as.length → ∀ (x : Addr × T4), as[i]? = some x → valV ((as.take i).map fun x => (tileK x.2, V.bl true)) (tileK x.2) = none := fun i hi x hx => by
      cases e : valV ((as.take i).map fun x => (tileK x.2, V.bl true)) (tileK x.2) with
      | none => rfl
      | some v =>
        have hmem := valV_in e
        rw [List.map_map] at hmem
        obtain ⟨y, hy, ey⟩ := List.mem_map.mp hmem
        have e2 : y.2 = x.2 := tileK_inj ey
        obtain ⟨j, hj, hy⟩ := List.mem_take_iff_getElem.mp hy
        have li : i < as.length := (List.getElem?_eq_some_iff.mp hx).1
        have g1 : (as.map (·.2))[j]? = some x.2 := by
          rw [List.getElem?_map, List.getElem?_eq_getElem (by omega), hy, ← e2]
          rfl
        have g2 : (as.map (·.2))[i]? = some x.2 := by
          rw [List.getElem?_map, hx]
          rfl
        have := nd_ix nd g1 g2
        omega
    refine ⟨fun i m H3 => m = as.length - i ∧ i ≤ as.length ∧ H3 = upd H2 D2 (.dT ((as.take i).map fun x => (tileK x.2, V.bl true))), ⟨as.length, rfl, Nat.zero_le _, rfl⟩, ?_⟩
    rintro i m H3 ⟨rfl, hi, rfl⟩
    have sD : ∀ o, Same H2 (upd H2 D2 o) := fun o => same_upd nD2
    by_cases li : i < as.length
    · have hx : as[i]? = some as[i] := List.getElem?_eq_getElem li
      have hxr : (refs as)[i]? = some (.ref as[i].1) := by
        rw [List.getElem?_map, hx]
        rfl
      refine .inr ⟨⟨_, _, sqL (sD _ _ _ hL2), hxr⟩, fun H' => H' = upd H2 D2 (.dT ((as.take (i + 1)).map fun x => (tileK x.2, V.bl true))), fun H' e => ⟨as.length - (i + 1), by omega, rfl, li, e⟩, fun x H' y => ?_⟩
      obtain ⟨rfl, fx⟩ := y
      have ex : x = .ref as[i].1 := Option.some.inj ((fx _ (sqL (sD _ _ _ hL2))).symm.trans hxr)
      subst ex
      refine ⟨rfl, _, rfl, _, tileK as[i].2, as[i].1, rfl, upd_same, sD _ _ _ (s2 _ _ (st as[i] (List.getElem_mem li))), ?_, ?_⟩
      · rw [List.length_map, List.length_take]
        exact lt_line (by omega)
      · rw [upd_upd, putK_new _ (key i hi _ hx), List.take_add_one, hx, List.map_append]
        rfl
    refine .inl ⟨⟨_, sqL (sD _ _ _ hL2), by rw [llen]; omega⟩, ?_⟩
    have ei : i = as.length := by omega
    subst ei
    rw [List.take_length]
    have hL3 := sD (.dT (as.map fun x => (tileK x.2, V.bl true))) _ _ hL2
    refine ⟨D2, _, rfl, upd_same, _, rfl, L, _, rfl, .inl (sqL hL3), rfl, _, rfl, ?_⟩
    refine iteNS (by rw [llen, List.length_map]) ?_
    -- self.tiles = tuple(sorted(tiles))
    have s3 : Same H (upd H2 D2 (.dT (as.map fun x => (tileK x.2, V.bl true)))) := s2.trans (sD _)
    generalize hH3 : upd H2 D2 (.dT (as.map fun x => (tileK x.2, V.bl true))) = H3 at s3 hL3
    refine ⟨_, rfl, L, as, rfl, sqL hL3, fun b hb => tile_dp (s3 _ _ (st b hb)), PySem.W.AllAlike.of fun b b' => tile_alike _ _, PySem.W.Sortable.tuples fun b => ⟨_, _, rfl⟩, fun b hb => ?_, fun as' p pm np => ?_⟩
    · have h1 := tile_depth b.2
      refine Nat.lt_of_le_of_lt ?_ un
      show (A.deeper _).units + 2 + (tileD b.2).depth ≤ (A.deeper _).units + 16 * 1 + 200
      omega
    refine ⟨p, _, rfl, .inl ⟨sqL upd_same, fun l nl => ?_⟩⟩
    have pm2 : (as'.map (·.2)).Perm (as.map (·.2)) := pm.map _
    have nd2 : (as'.map (·.2)).Nodup := pm2.nodup_iff.mpr nd
    have mem : ∀ x, x ∈ as' → x ∈ as := fun x hx => pm.mem_iff.mp hx
    have s4 : Same H (upd (upd H3 p (.lst (refs as'))) l (.tup (refs as'))) := (s3.trans (same_upd np)).trans (same_upd nl)
    have hl4 : upd (upd H3 p (.lst (refs as'))) l (.tup (refs as')) l = some (.tup (refs as')) := upd_same
    generalize hH4 : upd (upd H3 p (.lst (refs as'))) l (.tup (refs as')) = H4 at s4 hl4
    have hS4 := s4 _ _ hS
    have lS : l ≠ S := ne_of hl4 hS4 (by intro z; cases z)
    refine ⟨_, rfl, S, C, dx, _, rfl, hS4, T.cl, T.nT, by show 0 < 1000; decide, ?_⟩
    -- self._by_sides = {}
    intro d nd5
    have dS : d ≠ S := fun e => by
      rw [e, upd_same] at nd5
      cases nd5
    have nd4 : H4 d = none := by rwa [upd_ne dS] at nd5
    refine ⟨_, rfl, S, C, dx, _, rfl, by rw [upd_ne dS.symm]; exact upd_same, T.cl, T.nB, by show 1 < 1000; decide, ?_⟩
    have keep : ∀ (o u v : HO) b z, H4 b = some z → b ≠ S → upd (upd (upd H4 S o) d u) S v b = some z := fun o u v b z hb ne => by
      rw [upd_ne ne, upd_ne (ne_of_none hb nd4), upd_ne ne]
      exact hb
    have start : ∀ (o : HO), upd (upd (upd H4 S o) d (.dT [])) S (.ins C dx (tilesF l d)) S = some (.ins C dx (tilesF l d)) := fun o => upd_same
    have startD : ∀ (o v : HO), upd (upd (upd H4 S o) d (.dT [])) S v d = some (.dT []) := fun o v => by rw [upd_ne dS, upd_same]
    -- for tile in self.tiles
    refine ⟨_, rfl, S, C, dx, _, _, rfl, start _, T.cl, T.nT, by rfl, l, rfl, ⟨_, sqT (keep _ _ _ l _ hl4 lS)⟩, ?_⟩
    refine for_tup (K := K) (a := l) (xs := refs as') (fun i σ H5 => (∃ y, σ = [some (.ref S), some (.ref L), y]) ∧ H5 S = some (.ins C dx (tilesF l d)) ∧ H5 l = some (.tup (refs as')) ∧ (∃ kvs, H5 d = some (.dT kvs) ∧ kvs.length ≤ i ∧ BySides H5 kvs (as'.take i) ∧ ∀ k g, valV kvs k = some (.ref g) → H g = none) ∧ ∀ b o, H b = some o → b ≠ S → H5 b = some o)
      ⟨⟨none, rfl⟩, start _, keep _ _ _ l _ hl4 lS, ⟨[], startD _ _, Nat.le_refl _, bs_nil _, fun k g h => by simp [valV_nil] at h⟩, fun b o hb ne => keep _ _ _ b o (s4 b o hb) ne⟩ (fun i σ H5 _ h5 => sqT h5.2.2.1) ?_ ?_
    · rintro i x σ H5 hx ⟨⟨y0, rfl⟩, hS5, hl5, ⟨kvs, hd5, lk, bs, fr⟩, kp⟩
      obtain ⟨y, hy, rfl, hm⟩ := refs_get hx
      have li : i < as'.length := (List.getElem?_eq_some_iff.mp hy).1
      have lenE := pm.length_eq
      have hy5 : H5 y.1 = some (TileO y.2) := kp _ _ (st y (mem y hm)) (ne_of (st y (mem y hm)) hS (by intro z; cases z))
      refine ⟨_, rfl, S, C, dx, _, _, rfl, hS5, T.cl, T.nB, by rfl, d, rfl, .inr ⟨kvs, .inl hd5⟩, ?_⟩
      refine ⟨_, rfl, y.1, _, 2, _, rfl, rfl, sqT hy5, atI_nat (j := 2) rfl, _, rfl, y.1, _, 3, _, rfl, rfl, sqT hy5, atI_nat (j := 3) rfl, le_line (show 2 ≤ 100000 by decide), fun p np => ⟨Nat.zero_le _, fun e ne => ?_⟩⟩
      have s6 : Same H5 (upd (upd H5 p (.tup [.int y.2.w, .int y.2.s])) e (.lst [])) := (same_upd np).trans (same_upd ne)
      have pe : p ≠ e := fun e1 => by
        rw [e1, upd_same] at ne
        cases ne
      have hp6 : upd (upd H5 p (.tup [.int y.2.w, .int y.2.s])) e (.lst []) p = some (.tup ((sideK y.2.w y.2.s).map kV)) := by
        rw [upd_ne pe, upd_same]
        rfl
      have he6 : upd (upd H5 p (.tup [.int y.2.w, .int y.2.s])) e (.lst []) e = some (.lst []) := upd_same
      have ne5 : H5 e = none := by rwa [upd_ne pe.symm] at ne
      generalize hH6 : upd (upd H5 p (.tup [.int y.2.w, .int y.2.s])) e (.lst []) = H6 at s6 hp6 he6
      have bs6 := bs.mono s6
      have take1 : as'.take (i + 1) = as'.take i ++ [y] := by
        rw [List.take_add_one, hy]
        rfl
      refine ⟨kvs, sideK y.2.w y.2.s, p, s6 _ _ hd5, rfl, hp6, lt_line (by omega), fun v hv => ?_, fun hv => ?_⟩
      · obtain ⟨w2, z2, g, e1, rfl, hg⟩ := bs6.all _ _ hv
        obtain ⟨rfl, rfl⟩ := sideK_inj e1
        refine ⟨.inl ⟨rfl, _, sqL hg⟩, _, rfl, g, _, _, rfl, rfl, hg, ?_, ⟨_, rfl⟩, ?_, ?_, ⟨kvs, ?_, by omega, ?_, fr⟩, fun b o hb nb => ?_⟩
        · rw [List.length_map]
          have := List.length_filter_le (side y.2.w y.2.s) (as'.take i)
          rw [List.length_take] at this
          exact lt_line (by omega)
        · rw [upd_ne (ne_of (s6 _ _ hS5) hg (by intro z; cases z))]
          exact s6 _ _ hS5
        · rw [upd_ne (ne_of (s6 _ _ hl5) hg (by intro z; cases z))]
          exact s6 _ _ hl5
        · rw [upd_ne (ne_of (s6 _ _ hd5) hg (by intro z; cases z))]
          exact s6 _ _ hd5
        · rw [take1]
          refine ⟨fun k2 v2 h2 => ?_, fun w3 z3 h3 => ?_, bs6.inj⟩
          · obtain ⟨w3, z3, g3, rfl, rfl, hg3⟩ := bs6.all _ _ h2
            refine ⟨w3, z3, g3, rfl, rfl, ?_⟩
            rw [filter_snoc]
            by_cases hc : y.2.w = w3 ∧ y.2.s = z3
            · obtain ⟨rfl, rfl⟩ := hc
              rw [if_pos ⟨rfl, rfl⟩]
              rw [hv] at h2
              cases h2
              rw [upd_same]
              congr 2
              exact refs_snoc _ _ y.2
            · rw [if_neg hc, List.append_nil]
              have ng : g3 ≠ g := fun eg => by
                subst eg
                have := sideK_inj (bs6.inj _ _ _ hv h2)
                exact hc this
              rw [upd_ne ng]
              exact hg3
          · have h4 := bs6.non _ _ h3
            rw [filter_snoc, h4]
            by_cases hc : y.2.w = w3 ∧ y.2.s = z3
            · obtain ⟨rfl, rfl⟩ := hc
              rw [hv] at h3
              cases h3
            · rw [if_neg hc]
              rfl
        · have ng : b ≠ g := ne_of_none hb (fr _ _ hv)
          rw [upd_ne ng]
          exact s6 _ _ (kp b o hb nb)
      · have de : d ≠ e := ne_of (s6 _ _ hd5) he6 (by intro z; cases z)
        have nHe : H e = none := by
          cases he : H e with
          | none => rfl
          | some o =>
            have eS : e ≠ S := fun e1 => by
              rw [e1, hS5] at ne5
              cases ne5
            rw [kp e o he eS] at ne5
            cases ne5
        have he7 : upd H6 d (.dT (putK kvs (sideK y.2.w y.2.s) (.ref e))) e = some (.lst []) := by
          rw [upd_ne de.symm]
          exact he6
        have step : ∀ {b o}, H6 b = some o → b ≠ d → b ≠ e → ∀ u v, upd (upd H6 d u) e v b = some o := fun {b o} hb n1 n2 u v => by
          rw [upd_ne n2, upd_ne n1]
          exact hb
        refine ⟨.inl ⟨rfl, _, sqL he7⟩, _, rfl, e, _, _, rfl, rfl, he7, by decide, ⟨_, rfl⟩, ?_, ?_, ⟨putK kvs (sideK y.2.w y.2.s) (.ref e), ?_, ?_, ?_, fun k2 g h2 => ?_⟩, fun b o hb nb => ?_⟩
        · exact step (s6 _ _ hS5) (ne_of (s6 _ _ hS5) (s6 _ _ hd5) (by intro z; cases z)) (ne_of (s6 _ _ hS5) he6 (by intro z; cases z)) _ _
        · exact step (s6 _ _ hl5) (ne_of (s6 _ _ hl5) (s6 _ _ hd5) (by intro z; cases z)) (ne_of (s6 _ _ hl5) he6 (by intro z; cases z)) _ _
        · rw [upd_ne de, upd_same]
        · have := length_putK kvs (sideK y.2.w y.2.s) (.ref e)
          omega
        · rw [take1]
          have old : ∀ k2 v2, valV kvs k2 = some v2 → ∃ (w3 z3 : Int) (g3 : Addr), k2 = sideK w3 z3 ∧ v2 = .ref g3 ∧ g3 ≠ e ∧ ¬ (y.2.w = w3 ∧ y.2.s = z3) ∧ ∀ u v, upd (upd H6 d u) e v g3 = some (.lst (refs ((as'.take i).filter (side w3 z3)))) := fun k2 v2 h2 => by
            obtain ⟨w3, z3, g3, rfl, rfl, hg3⟩ := bs6.all _ _ h2
            obtain ⟨w4, z4, g4, e4, e5, hg4⟩ := bs.all _ _ h2
            cases e5
            have ge : g3 ≠ e := ne_of_none hg4 ne5
            refine ⟨w3, z3, g3, rfl, rfl, ge, fun hc => ?_, fun u v => step hg3 (ne_of hg3 (s6 _ _ hd5) (by intro z; cases z)) ge u v⟩
            obtain ⟨rfl, rfl⟩ := hc
            rw [hv] at h2
            cases h2
          refine ⟨fun k2 v2 h2 => ?_, fun w3 z3 h3 => ?_, fun k2 k3 v2 h2 h3 => ?_⟩
          · rw [valV_put] at h2
            by_cases ek : k2 = sideK y.2.w y.2.s
            · rw [if_pos ek] at h2
              cases h2
              refine ⟨y.2.w, y.2.s, e, ek, rfl, ?_⟩
              rw [upd_same, filter_snoc, if_pos ⟨rfl, rfl⟩, bs6.non _ _ hv]
              rfl
            · rw [if_neg ek] at h2
              obtain ⟨w3, z3, g3, rfl, rfl, _, hc, hg⟩ := old _ _ h2
              refine ⟨w3, z3, g3, rfl, rfl, ?_⟩
              rw [filter_snoc, if_neg hc, List.append_nil]
              exact hg _ _
          · rw [valV_put] at h3
            by_cases ek : sideK w3 z3 = sideK y.2.w y.2.s
            · rw [if_pos ek] at h3
              cases h3
            · rw [if_neg ek] at h3
              rw [filter_snoc, bs6.non _ _ h3]
              by_cases hc : y.2.w = w3 ∧ y.2.s = z3
              · obtain ⟨rfl, rfl⟩ := hc
                exact absurd rfl ek
              · rw [if_neg hc]
                rfl
          · rw [valV_put] at h2 h3
            by_cases ek : k2 = sideK y.2.w y.2.s
            · by_cases ek3 : k3 = sideK y.2.w y.2.s
              · rw [ek, ek3]
              · rw [if_pos ek] at h2
                rw [if_neg ek3] at h3
                cases h2
                obtain ⟨_, _, g3, _, eg, ge, _⟩ := old _ _ h3
                cases eg
                exact absurd rfl ge
            · rw [if_neg ek] at h2
              by_cases ek3 : k3 = sideK y.2.w y.2.s
              · rw [if_pos ek3] at h3
                cases h3
                obtain ⟨_, _, g3, _, eg, ge, _⟩ := old _ _ h2
                cases eg
                exact absurd rfl ge
              · rw [if_neg ek3] at h3
                exact bs6.inj _ _ _ h2 h3
        · rw [valV_put] at h2
          by_cases ek : k2 = sideK y.2.w y.2.s
          · rw [if_pos ek] at h2
            cases h2
            exact nHe
          · rw [if_neg ek] at h2
            exact fr _ _ h2
        · have hb6 := s6 _ _ (kp b o hb nb)
          have nd1 : b ≠ d := fun e1 => by
            subst e1
            rw [s4 _ _ hb] at nd4
            cases nd4
          exact step hb6 nd1 (ne_of_none hb nHe) _ _
    · rintro σ H5 ⟨⟨y0, rfl⟩, hS5, hl5, ⟨kvs, hd5, lk, bs, fr⟩, kp⟩
      rw [show (refs as').length = as'.length from List.length_map _, List.take_length] at bs
      refine q H5 ⟨dx, l, d, as', kvs, hS5, hl5, fun x hx => kp _ _ (st x (mem x hx)) (ne_of (st x (mem x hx)) hS (by intro z; cases z)), pm2, hd5, bs⟩ kp
end
end L2.K23
set_option Elab.async false
set_option linter.all false
set_option maxRecDepth 100000
set_option maxHeartbeats 4000000
/-! Strip and TileStair made. -/
namespace L2.K23
open PySem PySem.Spec PyProof.Rows
open _root_.K23 (T4 Mach Cfg)
/-! ### rows of tiles as data -/
def rowD (ts : List T4) : PyData := .tuple (ts.map tileD)
theorem canLay_tiles : ∀ ts : List T4, PyData.canLayAll0 (ts.map tileD) = true
  | [] => by simp [PyData.canLayAll0]
  | t :: ts => by
    rw [List.map_cons, PyData.canLayAll0, canLay_tiles ts]
    simp [tileD, PyData.canLay0, PyData.canLayAll0]
theorem depth_tiles : ∀ ts : List T4, PyData.depthAll (ts.map tileD) ≤ 1
  | [] => by simp [PyData.depthAll]
  | t :: ts => by
    have h1 := depth_tiles ts
    have h2 := tile_depth t
    rw [List.map_cons, PyData.depthAll]
    omega
theorem row_depth (ts : List T4) : (rowD ts).depth ≤ 2 := by
  have := depth_tiles ts
  unfold rowD
  rw [PyData.depth]
  omega
theorem row_shaped (ts : List T4) : SeqAt.shaped (rowD ts) = true := by
  unfold SeqAt.shaped
  rw [Bool.and_eq_true]
  refine ⟨?_, decide_eq_true ?_⟩
  · unfold rowD
    rw [PyData.canLay0]
    exact canLay_tiles ts
  · have := row_depth ts
    omega
theorem dp_tiles {K : PySem.W.Frag} {H : Hp} : ∀ {as : List (Addr × T4)}, Stand H as → DpAll K H (refs as) ((as.map (·.2)).map tileD)
  | [], _ => .nil
  | x :: as, st => .cons (tile_dp (st x (List.mem_cons_self ..))) (dp_tiles fun y hy => st y (List.mem_cons_of_mem _ hy))
theorem row_dp {K : PySem.W.Frag} {H : Hp} {p : Addr} {as : List (Addr × T4)} (hp : H p = some (.tup (refs as))) (st : Stand H as) : Dp K H (.ref p) (rowD (as.map (·.2))) := .tup (sqT hp) (dp_tiles st)
theorem eqv_tile (t : T4) : PyData.eqv (tileD t) (tileD t) = true := SeqAt.eqv_refl _ (SeqAt.canLay_of_shaped (tile_shaped t))
theorem any_tile {ts : List T4} {t : T4} (h : t ∈ ts) : ((ts.map tileD).any fun z => PyData.eqv z (tileD t)) = true := List.any_eq_true.mpr ⟨tileD t, List.mem_map.mpr ⟨t, h, rfl⟩, eqv_tile t⟩
structure StripTxt (K : PySem.W.Frag) (C : Addr) : Prop where
  cl : Cls K C
  nT : NoAttr K C "tiles"
structure StairTxt (K : PySem.W.Frag) (C : Addr) : Prop where
  cl : Cls K C
  nU : NoAttr K C "upper"
  nL : NoAttr K C "lower"
def StairAt (C CT CS CL : Addr) (H : Hp) (S T : Addr) (m st : Int) (rs : List Row3) : Prop := ∃ (dx B dxb L : Addr), H S = some (.ins C dx [("upper", .ref T), ("lower", .ref B)]) ∧ H B = some (.ins CS dxb [("tiles", .ref L)]) ∧
  TilesAt CL H L (_root_.K23.all (mach m st rs) st.toNat) ∧ TapeAt CT H T m st rs
theorem StairAt.mono {C CT CS CL : Addr} {H H' : Hp} {S T : Addr} {m st : Int} {rs : List Row3} (h : StairAt C CT CS CL H S T m st rs) (s : Same H H') : StairAt C CT CS CL H' S T m st rs := by
  obtain ⟨dx, B, dxb, L, h1, h2, h3, h4⟩ := h
  exact ⟨dx, B, dxb, L, s _ _ h1, s _ _ h2, h3.mono s, h4.mono s⟩
section
variable {P : Program} {w : World} {K : PySem.W.Frag} {mg : Str → Option Value} {base : Heap} {C CT CS CL : Addr}
/-! ### Strip.__init__ -/
theorem scStripInit : FnScope ["self", "tiles"] ["self", "tiles"] (defScope sStripInit) := ⟨rfl, rfl, rfl, by decide +kernel, rfl, by decide +kernel, by decide +kernel⟩
def spStripInit (CS CL : Addr) : Sp := fun vs H Q _ => ∃ (S dx L : Addr) (ts : List T4), vs = [.ref S, .ref L] ∧ H S = some (.ins CS dx []) ∧ TilesAt CL H L ts ∧ ⟨0, 0, 0, 0⟩ ∈ ts ∧
  ∀ H', H' S = some (.ins CS dx [("tiles", .ref L)]) → (∀ b o, H b = some o → b ≠ S → H' b = some o) → Q .non H'
theorem ok_stripInit {f : Addr} {fd : FuncData} {k : Nat} (F : Fun K "__init__" "Strip.__init__" sStripInit f fd) (T : StripTxt K CS) (TL : TilesTxt K CL) : FnOk P w K mg base CX0 (k + 1) f fd ["self", "tiles"] (spStripInit CS CL) := by
  refine F.ok scStripInit (fun vs H Q E h => ?_) (fun cdv A outer s H vs Q E hr h => ?_)
  · obtain ⟨S, dx, L, ts, rfl, _⟩ := h
    rfl
  · obtain ⟨S, dx, L, ts, rfl, hS, ⟨dxl, tt, d, as, kvs, hL, ht, st, pm, hd, bs⟩, hz, q⟩ := h
    refine ⟨_, pss_cons (ps_if (pt_cmpR (op_notInT (room65 hr)) (pe_tup (pa_cons pe_int (pa_cons pe_int (pa_cons pe_int (pa_cons pe_int pa_nil))))) (pe_fld (pv 1) rfl) (by rfl)) (pss_one ps_never) pss_nil)
      (pss_one (ps_fld (pv 0) (pv 1) rfl)), ?_⟩
    refine ⟨le_line (show 4 ≤ 100000 by decide), fun p np => ?_⟩
    have s1 : Same H (upd H p (.tup [.int 0, .int 0, .int 0, .int 0])) := same_upd np
    refine ⟨_, rfl, L, CL, dxl, _, _, rfl, s1 _ _ hL, TL.cl, TL.nT, by rfl, ?_⟩
    refine ⟨tileD ⟨0, 0, 0, 0⟩, (as.map (·.2)).map tileD, tile_dp (t := ⟨0, 0, 0, 0⟩) upd_same, row_dp (s1 _ _ ht) (st.mono s1), tile_shaped _, row_shaped _, _, rfl, ?_⟩
    rw [any_tile (pm.mem_iff.mpr hz)]
    refine iteF ?_
    refine ⟨_, rfl, _, rfl, S, CS, dx, _, rfl, s1 _ _ hS, T.cl, T.nT, by show 0 < 1000; decide, ?_⟩
    refine q _ upd_same fun b o hb ne => ?_
    rw [upd_ne ne]
    exact s1 _ _ hb
/-! ### TileStair.__init__ -/
theorem scStairInit : FnScope ["self", "machine"] ["self", "machine"] (defScope sStairInit) := ⟨rfl, rfl, rfl, by decide +kernel, rfl, by decide +kernel, by decide +kernel⟩
def spStairInit (C CT CS CL : Addr) : Sp := fun vs H Q _ => ∃ (S dx T : Addr) (m st : Int) (rs : List Row3), vs = [.ref S, .ref T] ∧ H S = some (.ins C dx []) ∧ TapeAt CT H T m st rs ∧ Nums m st rs ∧
  ∀ H', StairAt C CT CS CL H' S T m st rs → (∀ b o, H b = some o → b ≠ S → H' b = some o) → Q .non H'
theorem ok_stairInit {f : Addr} {fd : FuncData} (F : Fun K "__init__" "TileStair.__init__" sStairInit f fd) (T : StairTxt K C) (cT : C8.Cal P w K mg base 3 "tiles_of" (spTilesOf CT) [])
    (mS : C8.Mak P w K mg base 1 "Strip" CS (spStripInit CS CL) []) (mL : C8.Mak P w K mg base 2 "Tiles" CL (spTilesInit CL) []) : FnOk P w K mg base CX0 4 f fd ["self", "machine"] (spStairInit C CT CS CL) := by
  refine F.ok scStairInit (fun vs H Q E h => ?_) (fun cdv A outer s H vs Q E hr h => ?_)
  · obtain ⟨S, dx, t, m, st, rs, rfl, _⟩ := h
    rfl
  · obtain ⟨S, dx, t, m, st, rs, rfl, hS, ht, n, q⟩ := h
    have mok := n.mach
    refine ⟨_, pss_cons (ps_fld (pv 0) (pv 1) rfl)
      (pss_one (ps_fld (pv 0) (C8.pe_mk mS hr (by decide) (by rfl) (pa_cons (C8.pe_mk mL hr (by decide) (by rfl) (pa_cons (C8.pe_c cT hr (by decide) (by rfl) (pa_cons (pv 1) pa_nil)) pa_nil)) pa_nil)) rfl)), ?_⟩
    have tS : t ≠ S := by
      obtain ⟨dx2, l, xs, h1, _⟩ := id ht
      intro e
      rw [e, hS] at h1
      have := Option.some.inj h1
      injection this with _ _ e3
      cases e3
    refine ⟨_, rfl, _, rfl, S, C, dx, _, rfl, hS, T.cl, T.nU, by show 0 < 1000; decide, ?_⟩
    generalize hH1 : upd H S (.ins C dx (putF "upper" (.ref t) [])) = H1
    have hS1 : H1 S = some (.ins C dx [("upper", .ref t)]) := by
      rw [← hH1, upd_same]
      rfl
    have k1 : ∀ b o, H b = some o → b ≠ S → H1 b = some o := fun b o hb ne => by
      rw [← hH1, upd_ne ne]
      exact hb
    have ht1 : TapeAt CT H1 t m st rs := by
      obtain ⟨dx2, l, xs, h1, h2, h3⟩ := ht
      exact ⟨dx2, l, xs, k1 _ _ h1 tS, k1 _ _ h2 (ne_of h2 hS (by intro z; cases z)), h3.mono fun b ys e => k1 _ _ e (ne_of e hS (by intro z; cases z))⟩
    -- tiles_of(machine)
    refine ⟨_, rfl, t, m, st, rs, rfl, ht1, n, fun H2 L nL md => ?_⟩
    obtain ⟨as, eas, hL, sd⟩ := md.is
    -- Tiles(..)
    intro X dX nX ndX nXd
    have s2 : Same H2 (upd (upd H2 dX (.own X)) X (.ins CL dX [])) := (same_upd ndX).trans (same_upd (by rw [upd_ne nXd.symm]; exact nX))
    have lenA : as.length ≤ 100 := by
      have h1 := _root_.K23.all_len mok st.toNat
      rw [← eas, List.length_map] at h1
      have := n.s4
      omega
    have memA : ∀ x ∈ as, _root_.K23.IsT (mach m st rs) x.2 := fun x hx => (_root_.K23.mem_all mok).mp (by
      show x.2 ∈ _root_.K23.all (mach m st rs) st.toNat
      rw [← eas]
      exact List.mem_map.mpr ⟨x, hx, rfl⟩)
    have ndA : (as.map (·.2)).Nodup := by
      rw [eas]
      exact _root_.K23.all_nodup mok
    refine ⟨X, dX, L, as, rfl, upd_same, s2 _ _ hL, sd.mono s2, ndA, lenA, fun x hx => _root_.K23.colours mok (memA x hx), fun H3 hT3 k3 => ⟨rfl, ?_⟩⟩
    have s3 : Same H2 H3 := fun b o hb => k3 b o (s2 b o hb) (ne_of_none hb nX)
    rw [eas] at hT3
    -- Strip(..)
    intro Y dY nY ndY nYd
    have s4 : Same H3 (upd (upd H3 dY (.own Y)) Y (.ins CS dY [])) := (same_upd ndY).trans (same_upd (by rw [upd_ne nYd.symm]; exact nY))
    refine ⟨Y, dY, X, _, rfl, upd_same, hT3.mono s4, (_root_.K23.mem_all mok).mpr (.blank 0 (Int.le_refl _) ?_), fun H5 hY5 k5 => ⟨rfl, ?_⟩⟩
    · have := mok.m2
      omega
    have s5 : Same H3 H5 := fun b o hb => k5 b o (s4 b o hb) (ne_of_none hb nY)
    have s15 : Same H1 H5 := md.same.trans (s3.trans s5)
    refine ⟨_, rfl, S, C, dx, _, rfl, s15 _ _ hS1, T.cl, T.nL, by show 1 < 1000; decide, ?_⟩
    have nS2 : ∀ {b o}, H3 b = some o → (∀ fs, o ≠ .ins C dx fs) → b ≠ S := fun {b o} hb ho => ne_of hb ((md.same.trans s3) _ _ hS1) (ho _)
    have kS : ∀ {b o}, H5 b = some o → o ≠ .ins C dx [("upper", .ref t)] → ∀ u, upd H5 S u b = some o := fun {b o} hb ho u => by
      rw [upd_ne (ne_of hb (s15 _ _ hS1) ho)]
      exact hb
    refine q _ ⟨dx, Y, dY, X, upd_same, ?_, ?_, ?_⟩ fun b o hb ne => ?_
    · refine kS hY5 (fun e => ?_) _
      injection e with _ _ e3
      injection e3 with e4 _
      injection e4 with e5 _
      exact absurd e5 (by decide +kernel)
    · obtain ⟨dx2, tt, d, as2, kvs, h1, h2, h3, h4, h6, h7⟩ := hT3.mono s5
      refine ⟨dx2, tt, d, as2, kvs, kS h1 (fun e => ?_) _, kS h2 (by intro z; cases z) _, fun x hx => kS (h3 x hx) (by intro z; cases z) _, h4, kS h6 (by intro z; cases z) _, ⟨fun k v h => ?_, h7.non, h7.inj⟩⟩
      · injection e with _ _ e3
        injection e3 with e4 _
        injection e4 with e5 _
        exact absurd e5 (by decide +kernel)
      · obtain ⟨w3, z3, g3, e1, e2, e3⟩ := h7.all k v h
        exact ⟨w3, z3, g3, e1, e2, kS e3 (by intro z; cases z) _⟩
    · obtain ⟨dx2, l, xs, h1, h2, h3⟩ := ht1.mono s15
      refine ⟨dx2, l, xs, kS h1 (fun e => ?_) _, kS h2 (by intro z; cases z) _, h3.mono fun b ys e => kS e (by intro z; cases z) _⟩
      injection e with _ _ e3
      injection e3 with e4 _
      injection e4 with e5 _
      exact absurd e5 (by decide +kernel)
    · rw [upd_ne ne]
      exact s15 _ _ (k1 b o hb ne)
end
end L2.K23
set_option Elab.async false
set_option linter.all false
set_option maxRecDepth 100000
set_option maxHeartbeats 4000000
/-! _reaching. -/
namespace L2.K23
open PySem PySem.Spec PyProof.Rows
open _root_.K23 (T4 Mach Cfg)
/-! ### loops over reversed and enumerated tuples -/
theorem for_revT {K : PySem.W.Frag} {a : Addr} {xs : List V} {g : TG} {tb : TS} {D : Ends} {σ : St} {H : Hp} (Pv : Nat → St → Hp → Prop) (h0 : Pv 0 σ H) (hl : ∀ i σ H, Pv i σ H → SqT K H a xs)
    (hs : ∀ i x σ H, i < xs.length → xs[xs.length - 1 - i]? = some x → Pv i σ H → g x σ H fun σ2 H2 => tb { D with nx := Pv (i + 1), ct := Pv (i + 1), bk := D.nx } σ2 H2) (hd : ∀ σ H, Pv xs.length σ H → D.nx σ H) :
    ∃ W : Nat → Nat → St → Hp → Prop, (∃ m, W 0 m σ H) ∧ ∀ i m σ H, W i m σ H → ((RT.ItvT K a xs.length).stop i H ∧ D.nx σ H) ∨
      ((RT.ItvT K a xs.length).go i H ∧ ∃ N : St → Hp → Prop, (∀ σ' H', N σ' H' → ∃ m', m' < m ∧ W (i + 1) m' σ' H') ∧ ∀ x H', (RT.ItvT K a xs.length).yld i H x H' → g x σ H' fun σ2 H2 => tb { D with nx := N, ct := N, bk := D.nx } σ2 H2) := by
  refine ⟨fun i m σ H => m = xs.length - i ∧ i ≤ xs.length ∧ Pv i σ H, ⟨xs.length, rfl, Nat.zero_le _, h0⟩, ?_⟩
  rintro i m σ H ⟨rfl, hi, p⟩
  have q := hl i σ H p
  by_cases lt : i < xs.length
  · have gx : xs[xs.length - 1 - i]? = some (xs[xs.length - 1 - i]'(by omega)) := List.getElem?_eq_getElem (by omega)
    refine .inr ⟨⟨lt, xs, _, q, gx⟩, Pv (i + 1), fun σ' H' p' => ⟨xs.length - (i + 1), by omega, rfl, lt, p'⟩, fun x H' y => ?_⟩
    obtain ⟨rfl, fx⟩ := y
    exact hs i x σ H' lt (fx _ q) p
  · have e : i = xs.length := by omega
    subst e
    exact .inl ⟨Nat.le_refl _, hd σ H p⟩
theorem for_enumT {K : PySem.W.Frag} {a : Addr} {xs : List V} {g : TG} {tb : TS} {D : Ends} {σ : St} {H : Hp} (Pv : Nat → St → Hp → Prop) (h0 : Pv 0 σ H) (hl : ∀ i σ H, Pv i σ H → SqT K H a xs)
    (hs : ∀ i x T σ H, xs[i]? = some x → H T = none → Pv i σ H → g (.ref T) σ (upd H T (.tup [.int (i : Nat), x])) fun σ2 H2 => tb { D with nx := Pv (i + 1), ct := Pv (i + 1), bk := D.nx } σ2 H2) (hd : ∀ σ H, Pv xs.length σ H → D.nx σ H) :
    ∃ W : Nat → Nat → St → Hp → Prop, (∃ m, W 0 m σ H) ∧ ∀ i m σ H, W i m σ H → ((IteT K a).stop i H ∧ D.nx σ H) ∨
      ((IteT K a).go i H ∧ ∃ N : St → Hp → Prop, (∀ σ' H', N σ' H' → ∃ m', m' < m ∧ W (i + 1) m' σ' H') ∧ ∀ x H', (IteT K a).yld i H x H' → g x σ H' fun σ2 H2 => tb { D with nx := N, ct := N, bk := D.nx } σ2 H2) := by
  refine ⟨fun i m σ H => m = xs.length - i ∧ i ≤ xs.length ∧ Pv i σ H, ⟨xs.length, rfl, Nat.zero_le _, h0⟩, ?_⟩
  rintro i m σ H ⟨rfl, hi, p⟩
  have q := hl i σ H p
  by_cases lt : i < xs.length
  · refine .inr ⟨⟨xs, xs[i], q, List.getElem?_eq_getElem lt⟩, Pv (i + 1), fun σ' H' p' => ⟨xs.length - (i + 1), by omega, rfl, lt, p'⟩, fun x H' y => ?_⟩
    obtain ⟨T, x0, rfl, nT, rfl, fx⟩ := y
    exact hs i x0 T σ H (fx _ q) nT p
  · have e : i = xs.length := by omega
    subst e
    exact .inl ⟨⟨xs, q, Nat.le_refl _⟩, hd σ H p⟩
theorem last_split {gs : List V} {i : Nat} {v : V} (lg : gs.length = i + 1) (h : gs[i]? = some v) : gs = gs.take i ++ [v] := by
  rw [take_snoc h, List.take_of_length_le (by omega)]
/-! ### the colours from which a row can be finished -/
abbrev Of (as : List (Addr × T4)) : T4 → Prop := fun t => t ∈ as.map (·.2)
def Good (H : Hp) (as : List (Addr × T4)) (right : Int) (f : List Int) (v : V) : Prop := ∃ (d : Addr) (kvs : List (Key × V)), v = .ref d ∧ H d = some (.dK kvs) ∧ ∀ c : Int, (valV kvs (.inl c)).isSome = true ↔ _root_.K23.Fin (Of as) right f c
theorem Good.mono {H H' : Hp} {as : List (Addr × T4)} {right : Int} {f : List Int} {v : V} (g : Good H as right f v) (s : ∀ b kvs, H b = some (.dK kvs) → H' b = some (.dK kvs)) : Good H' as right f v := by
  obtain ⟨d, kvs, e, h, g⟩ := g
  exact ⟨d, kvs, e, s _ _ h, g⟩
section
variable {P : Program} {w : World} {K : PySem.W.Frag} {mg : Str → Option Value} {base : Heap} {C : Addr}
theorem scReaching : FnScope ["tiles", "floor", "right", "good", "south", "found", "tile"] ["tiles", "floor", "right"] (defScope sReaching) := ⟨rfl, rfl, rfl, by decide +kernel, rfl, by decide +kernel, by decide +kernel⟩
def spReaching (C : Addr) : Sp := fun vs H Q _ => ∃ (S F : Addr) (dx T d : Addr) (as : List (Addr × T4)) (f : List Int) (right : Int), vs = [.ref S, .ref F, .int right] ∧ H S = some (.ins C dx (tilesF T d)) ∧ H T = some (.tup (refs as)) ∧ Stand H as ∧ TupI H F f ∧ f.length ≤ 60 ∧ as.length ≤ 100 ∧
  ∀ (H' : Hp) (g : Addr) (gs : List V), Same H H' → H' g = some (.lst gs) → gs.length = f.length + 1 → (∀ i, i ≤ f.length → ∃ v, gs[i]? = some v ∧ Good H' as right (f.drop i) v) → Q (.ref g) H'
theorem ok_reaching {f : Addr} {fd : FuncData} {k : Nat} (F : Fun K "_reaching" "_reaching" sReaching f fd) (T : TilesTxt K C) (B : Bi mg) : FnOk P w K mg base CX0 (k + 1) f fd ["tiles", "floor", "right"] (spReaching C) := by
  refine F.ok scReaching (fun vs H Q E h => ?_) (fun cdv A outer s H vs Q E hr h => ?_)
  · obtain ⟨S, F, dx, tt, d, as, f, right, rfl, _⟩ := h
    rfl
  · obtain ⟨S, F, dx, tt, d, as, f, right, rfl, hS, hT, st, hF, len, lena, q⟩ := h
    have hu := hu_of hr
    refine ⟨_, pss_cons (ps_set (i := 3) scReaching.nd rfl (Or.inl rfl) (pe_lst (pa_cons (pe_disp (pps_cons (pv 2) pe_bl pps_nil) (by rfl) (by rfl) (fun z => by cases z) (show 1 ≤ 15 by decide)) pa_nil)))
      (pss_cons (ps_for PassesOwn.never rfl (RT.pi_revA (by rfl) B.reversed (pv 1)) (pg_name (i := 4) scReaching.nd rfl (Or.inl rfl))
        (pss_cons (ps_set (i := 5) scReaching.nd rfl (Or.inl rfl) pe_dnewK)
        (pss_cons (ps_for PassesOwn.never rfl (pi_tup (pe_fld (pv 0) rfl)) (pg_name (i := 6) scReaching.nd rfl (Or.inl rfl))
          (pss_one (ps_if (PW.pt (pw_and (pt_cmpR op_eq (pe_ix (ix_tupK K) (pv 6) pe_int (fun _ _ => rfl)) (pv 4) (nomark _))
              (pw_and1 (pt_cmp (pc_din hu (pe_ix (ix_tupK K) (pv 6) pe_int (fun _ _ => rfl)) (pe_ix (ix_listK K) (pv 3) (pe_un un_neg pe_int) (fun _ _ => rfl)))))))
            (pss_one (ps_dput hu (pv 5) (pe_ix (ix_tupK K) (pv 6) pe_int (fun _ _ => rfl)) pe_bl rfl)) pss_nil)))
        (pss_one (ps_expr (pe_bm PySem.F.plainAttrs_list PySem.F.slot_list_append PySem.F.type_list_append mt_append (pv 3) (pa_cons (pv 5) pa_nil)))))))
      (pss_one (ps_ret (pe_revL (pv 3))))), ?_⟩
    -- good = [{right: True}]
    intro D0 nD0
    refine ⟨_, rfl, upd_same, [(.inl right, .bl true)], rfl, show 1 ≤ 15 by decide, Nat.le_of_lt (lt_line (show 1 ≤ 100000 by decide)), fun G nG => ?_⟩
    rw [upd_upd] at nG ⊢
    have hD0 : upd H D0 (.dK (mergeK [] [(.inl right, .bl true)])) D0 = some (.dK [(.inl right, .bl true)]) := upd_same
    have GD : G ≠ D0 := fun e => by
      rw [e, hD0] at nG
      cases nG
    have nGH : H G = none := by rwa [upd_ne GD] at nG
    refine ⟨_, rfl, F, f.map V.int, rfl, .inr ⟨sqT (same_upd nG _ _ (same_upd nD0 _ _ hF)), ?_⟩⟩
    have flen : (f.map V.int).length = f.length := List.length_map _
    -- for south in reversed(floor)
    refine for_revT (K := K) (a := F) (xs := f.map V.int) (fun i σ H2 => (∃ y4 y5 y6, σ = [some (.ref S), some (.ref F), some (.int right), some (.ref G), y4, y5, y6]) ∧ Same H H2 ∧ ∃ gs, H2 G = some (.lst gs) ∧ gs.length = i + 1 ∧
        ∀ j, j ≤ i → ∃ v, gs[j]? = some v ∧ Good H2 as right (f.drop (f.length - j)) v)
      ⟨⟨none, none, none, rfl⟩, (same_upd nD0).trans (same_upd nG), [.ref D0], upd_same, rfl, fun j hj => ?_⟩ (fun i σ H2 h2 => sqT (h2.2.1 _ _ hF)) ?_ ?_
    · have e : j = 0 := by omega
      subst e
      refine ⟨_, rfl, D0, _, rfl, by rw [upd_ne GD.symm]; exact hD0, fun c => ?_⟩
      rw [Nat.sub_zero, List.drop_length, _root_.K23.fin_nil]
      by_cases e : c = right
      · subst e
        rw [valV_pos rfl]
        simp
      · rw [valV_neg (fun e2 => e (Sum.inl.inj e2).symm), valV_nil]
        simp [e]
    · rintro i x σ H2 li hx ⟨⟨y4, y5, y6, rfl⟩, s2, gs, hG, lg, gd⟩
      rw [flen] at li hx
      obtain ⟨south, hs, rfl⟩ := ints_get hx
      -- found = {}
      intro D nD
      have nDH : H D = none := s2.free nD
      have GD2 : G ≠ D := ne_of_none hG nD
      have hS2 := s2 _ _ hS
      have hT2 := s2 _ _ hT
      -- for tile in tiles.tiles
      refine ⟨_, rfl, S, C, dx, _, _, rfl, same_upd nD _ _ hS2, T.cl, T.nT, by rfl, tt, rfl, ⟨_, sqT (same_upd nD _ _ hT2)⟩, ?_⟩
      obtain ⟨v0, hv0, dg, kg, rfl, hdg, gg⟩ := gd i (Nat.le_refl _)
      have dgD : dg ≠ D := ne_of_none hdg nD
      have egs : gs = gs.take i ++ [.ref dg] := last_split lg hv0
      refine for_tup (K := K) (a := tt) (xs := refs as) (fun j σ H3 => (∃ y6, σ = [some (.ref S), some (.ref F), some (.int right), some (.ref G), some (.int south), some (.ref D), y6]) ∧ ∃ kvs, H3 = upd H2 D (.dK kvs) ∧ kvs.length ≤ j ∧
          ∀ c : Int, (valV kvs (.inl c)).isSome = true ↔ ∃ t ∈ (as.take j).map (·.2), t.s = south ∧ t.w = c ∧ _root_.K23.Fin (Of as) right (f.drop (f.length - i)) t.e)
        ⟨⟨y6, rfl⟩, [], rfl, Nat.le_refl _, fun c => by simp [valV_nil]⟩ (fun j σ H3 _ h3 => ?_) ?_ ?_
      · obtain ⟨_, kvs, rfl, _⟩ := h3
        exact sqT (same_upd nD _ _ hT2)
      · rintro j x σ H3 hx ⟨⟨y6, rfl⟩, kvs, rfl, lk, iff⟩
        obtain ⟨y, hy, rfl, hm⟩ := refs_get hx
        have lj : j < as.length := (List.getElem?_eq_some_iff.mp hy).1
        have hy3 : upd H2 D (.dK kvs) y.1 = some (TileO y.2) := same_upd nD _ _ (s2 _ _ (st y hm))
        have hG3 : upd H2 D (.dK kvs) G = some (.lst gs) := same_upd nD _ _ hG
        have hd3 : upd H2 D (.dK kvs) dg = some (.dK kg) := same_upd nD _ _ hdg
        have take1 : (as.take (j + 1)).map (·.2) = (as.take j).map (·.2) ++ [y.2] := by
          rw [List.take_add_one, hy, List.map_append]
          rfl
        refine ⟨_, rfl, y.1, _, 3, _, rfl, rfl, sqT hy3, atI_nat (j := 3) rfl, _, rfl, rfl, _, rfl, ?_⟩
        have skip : ¬ (y.2.s = south ∧ _root_.K23.Fin (Of as) right (f.drop (f.length - i)) y.2.e) → (∃ y6, [some (V.ref S), some (.ref F), some (.int right), some (.ref G), some (.int south), some (.ref D), some (.ref y.1)] = [some (.ref S), some (.ref F), some (.int right), some (.ref G), some (.int south), some (.ref D), y6]) ∧
            ∃ kvs', upd H2 D (.dK kvs) = upd H2 D (.dK kvs') ∧ kvs'.length ≤ j + 1 ∧ ∀ c : Int, (valV kvs' (.inl c)).isSome = true ↔ ∃ t ∈ (as.take (j + 1)).map (·.2), t.s = south ∧ t.w = c ∧ _root_.K23.Fin (Of as) right (f.drop (f.length - i)) t.e := fun no => by
          refine ⟨⟨_, rfl⟩, kvs, rfl, by omega, fun c => ?_⟩
          rw [iff c, take1]
          constructor
          · rintro ⟨t, ht, r⟩
            exact ⟨t, List.mem_append_left _ ht, r⟩
          · rintro ⟨t, ht, r⟩
            rcases List.mem_append.mp ht with ht | ht
            · exact ⟨t, ht, r⟩
            · rw [List.mem_singleton.mp ht] at r
              exact absurd ⟨r.1, r.2.2⟩ no
        by_cases e1 : y.2.s = south
        · rw [decide_eq_true (congrArg V.int e1)]
          refine iteT ⟨_, rfl, y.1, _, 0, _, rfl, rfl, sqT hy3, atI_nat (j := 0) rfl, _, rfl, 1, rfl, G, gs, -1, .ref dg, rfl, rfl, sqL hG3, by rw [egs]; exact atI_last _ _, dg, _, rfl, DGet.k (k := Sum.inl y.2.e) hd3, _, rfl, ?_⟩
          refine ite2 (fun e2 => ?_) (fun e2 => ?_)
          · refine ⟨_, rfl, _, rfl, y.1, _, 2, _, rfl, rfl, sqT hy3, atI_nat (j := 2) rfl, D, _, rfl, DPut.k (k := Sum.inl y.2.w) upd_same (lt_line (by omega)), ?_⟩
            rw [upd_upd]
            refine ⟨⟨_, rfl⟩, _, rfl, ?_, fun c => ?_⟩
            · have := length_putK kvs (.inl y.2.w) (.bl true)
              omega
            · rw [valV_put, take1]
              by_cases ec : c = y.2.w
              · subst ec
                rw [if_pos rfl]
                refine ⟨fun _ => ⟨y.2, List.mem_append_right _ (List.mem_singleton.mpr rfl), e1, rfl, (gg _).mp e2⟩, fun _ => rfl⟩
              · rw [if_neg (fun e3 => ec (Sum.inl.inj e3)), iff c]
                constructor
                · rintro ⟨t, ht, r⟩
                  exact ⟨t, List.mem_append_left _ ht, r⟩
                · rintro ⟨t, ht, r⟩
                  rcases List.mem_append.mp ht with ht | ht
                  · exact ⟨t, ht, r⟩
                  · rw [List.mem_singleton.mp ht] at r
                    exact absurd r.2.1.symm ec
          · exact skip fun h => e2 ((gg _).mpr h.2)
        · rw [decide_eq_false (fun e2 => e1 (V.int.inj e2))]
          exact iteF (iteF (skip fun h => e1 h.1))
      · rintro σ H3 ⟨⟨y6, rfl⟩, kvs, rfl, lk, iff⟩
        rw [show (refs as).length = as.length from List.length_map _, List.take_length] at iff
        have hG3 : upd H2 D (.dK kvs) G = some (.lst gs) := same_upd nD _ _ hG
        refine ⟨_, rfl, .inl ⟨rfl, _, sqL hG3⟩, _, rfl, G, gs, _, rfl, rfl, hG3, lt_line (by omega), ⟨_, _, _, rfl⟩, fun b o hb => ?_, gs ++ [.ref D], upd_same, by rw [List.length_append, lg]; rfl, fun j hj => ?_⟩
        · rw [upd_ne (ne_of_none hb nGH)]
          exact same_upd nD _ _ (s2 _ _ hb)
        · have kd : ∀ b kv, upd H2 D (.dK kvs) b = some (.dK kv) → upd (upd H2 D (.dK kvs)) G (.lst (gs ++ [.ref D])) b = some (.dK kv) := fun b kv hb => by
            rw [upd_ne (ne_of hb hG3 (by intro z; cases z))]
            exact hb
          by_cases e : j ≤ i
          · obtain ⟨v, hv, gv⟩ := gd j e
            have lj : j < gs.length := by omega
            exact ⟨v, by rw [List.getElem?_append_left lj]; exact hv, gv.mono fun b kv hb => kd b kv (same_upd nD _ _ hb)⟩
          · have ej : j = i + 1 := by omega
            subst ej
            refine ⟨.ref D, by rw [List.getElem?_append_right (by omega), lg]; simp, D, kvs, rfl, kd _ _ upd_same, fun c => ?_⟩
            have ed : f.drop (f.length - (i + 1)) = south :: f.drop (f.length - i) := by
              have l2 : f.length - (i + 1) < f.length := by omega
              rw [List.drop_eq_getElem_cons l2]
              have e1 : f.length - (i + 1) + 1 = f.length - i := by omega
              have e2 : f.length - 1 - i = f.length - (i + 1) := by omega
              rw [e2, List.getElem?_eq_getElem l2] at hs
              rw [e1, Option.some.inj hs]
            rw [iff c, ed, _root_.K23.fin_cons]
    · rintro σ H2 ⟨⟨y4, y5, y6, rfl⟩, s2, gs, hG, lg, gd⟩
      rw [flen] at lg gd
      refine ⟨_, rfl, G, gs, rfl, sqL hG, fun R nR => ?_⟩
      refine q _ R gs.reverse (s2.trans (same_upd nR)) upd_same (by rw [List.length_reverse]; exact lg) fun i hi => ?_
      obtain ⟨v, hv, gv⟩ := gd (f.length - i) (by omega)
      refine ⟨v, ?_, ?_⟩
      · rw [List.getElem?_reverse (by omega)]
        have e : gs.length - 1 - i = f.length - i := by omega
        rw [e]
        exact hv
      · have e : f.length - (f.length - i) = i := by omega
        rw [e] at gv
        exact gv.mono fun b kv hb => same_upd nR _ _ hb
end
end L2.K23
set_option Elab.async false
set_option linter.all false
set_option maxRecDepth 100000
set_option maxHeartbeats 4000000
/-! rows_of_any_length, rows_on: where one row stands, or none. -/
namespace L2.K23
open PySem PySem.Spec PyProof.Rows
open _root_.K23 (T4 Mach Cfg IsRow west)
section
variable {X : Cx}
theorem op_catK (K : PySem.W.Frag) (h : X.K = K := by rfl) : OpR X (binaryOp .Add) (rCatA K) := h ▸ op_catA
end
/-- one row stands on the floor, or none -/
def One (L : T4 → Prop) (left right : Int) (f : List Int) : Option (List T4) → Prop
  | none => ∀ r, ¬ IsRow L right f left r
  | some r => ∀ r', IsRow L right f left r' ↔ r' = r
/-- the list of the rows that stand -/
def RowsL (H : Hp) (l : Addr) : Option (List T4) → Prop
  | none => H l = some (.lst [])
  | some r => ∃ p, H l = some (.lst [.ref p]) ∧ RowAt H p r
theorem RowsL.mono {H H' : Hp} {l : Addr} {o : Option (List T4)} (h : RowsL H l o) (s : Same H H') : RowsL H' l o := by
  cases o with
  | none => exact s _ _ h
  | some r =>
    obtain ⟨p, h1, h2⟩ := h
    exact ⟨p, s _ _ h1, h2.mono s⟩
theorem row_alike : ∀ ts us : List T4, ts.length = us.length → PySem.W.alikeAll (ts.map tileD) (us.map tileD) = true
  | [], _, _ => by simp [PySem.W.alikeAll]
  | _ :: _, [], h => by simp at h
  | t :: ts, u :: us, h => by
    rw [List.map_cons, List.map_cons, PySem.W.alikeAll, tile_alike t u, row_alike ts us (by simpa using h)]
    rfl
section
variable {P : Program} {w : World} {K : PySem.W.Frag} {mg : Str → Option Value} {base : Heap} {C : Addr}
theorem scRowsAny : FnScope ["tiles", "floor", "left", "right", "good", "rows", "at", "south", "longer", "row", "west", "tile"] ["tiles", "floor", "left", "right"] (defScope sRowsAny) := ⟨rfl, rfl, rfl, by decide +kernel, rfl, by decide +kernel, by decide +kernel⟩
def spRows (C : Addr) : Sp := fun vs H Q _ => ∃ (S F : Addr) (ts : List T4) (f : List Int) (left right : Int) (o : Option (List T4)), vs = [.ref S, .ref F, .int left, .int right] ∧ TilesAt C H S ts ∧ ts.Nodup ∧ ts.length ≤ 100 ∧ TupI H F f ∧ 0 < f.length ∧ f.length ≤ 60 ∧
  One (fun t => t ∈ ts) left right f o ∧ ∀ (H' : Hp) (l : Addr), Same H H' → H l = none → RowsL H' l o → Q (.ref l) H'
theorem ok_rowsAny {f : Addr} {fd : FuncData} (F : Fun K "rows_of_any_length" "rows_of_any_length" sRowsAny f fd) (T : TilesTxt K C) (B : Bi mg) (Z : Cs mg) (cR : C8.Cal P w K mg base 1 "_reaching" (spReaching C) []) (cF : C8.Met P w K mg base 1 C "fitting" (spFitting C) []) :
    FnOk P w K mg base CX0 2 f fd ["tiles", "floor", "left", "right"] (spRows C) := by
  refine F.ok scRowsAny (fun vs H Q E h => ?_) (fun cdv A outer s H vs Q E hr h => ?_)
  · obtain ⟨S, F, ts, f, left, right, o, rfl, _⟩ := h
    rfl
  · obtain ⟨S, F, ts, f, left, right, o, rfl, ⟨dx, tt, d, as, kvs, hS, hT, st, pm, hd, bs⟩, nd, lent, hF, pos, len, one, q⟩ := h
    have hu := hu_of hr
    have lena : as.length ≤ 100 := by
      have := pm.length_eq
      rw [List.length_map] at this
      omega
    have nda : (as.map (·.2)).Nodup := pm.nodup_iff.mpr nd
    have eL : Of as = fun t => t ∈ ts := funext fun t => propext pm.mem_iff
    have flen : (f.map V.int).length = f.length := List.length_map _
    rw [← eL] at one
    refine ⟨_, pss_cons (ps_set (i := 4) scRowsAny.nd rfl (Or.inr rfl) (C8.pe_c cR hr (by decide) (by rfl) (pa_cons (pv 0) (pa_cons (pv 1) (pa_cons (pv 3) pa_nil)))))
      (pss_cons (ps_if (pt_cmp (pc_dnotin hu (pv 2) (pe_ix (ix_listK K) (pv 4) pe_int (fun _ _ => rfl)))) (pss_one (ps_ret (pe_lst pa_nil))) pss_nil)
      (pss_cons (ps_set (i := 5) scRowsAny.nd rfl (Or.inl rfl) (pe_lst (pa_cons (pe_tup pa_nil) pa_nil)))
      (pss_cons (ps_for PassesOwn.never rfl (pi_enumT (by rfl) B.enumerate (pa_cons (pv 1) pa_nil)) (pg_tup (by rfl) (pgs_cons (pg_name (i := 6) scRowsAny.nd rfl (Or.inr rfl)) (pgs_cons (pg_name (i := 7) scRowsAny.nd rfl (Or.inl rfl)) pgs_nil)))
        (pss_cons (ps_set (i := 8) scRowsAny.nd rfl (Or.inl rfl) (pe_lst pa_nil))
        (pss_cons (ps_for PassesOwn.never rfl (pi_list (pv 5)) (pg_name (i := 9) scRowsAny.nd rfl (Or.inr rfl))
          (pss_cons (ps_set (i := 10) scRowsAny.nd rfl (Or.inl rfl) (pe_ifExp (pt_truth (pv 9) (by intro _; rfl)) (pe_ix (ix_tupK K) (pe_ix (ix_tupK K) (pv 9) (pe_un un_neg pe_int) (fun _ _ => rfl)) pe_int (fun _ _ => rfl)) (pv 2)))
          (pss_cons (ps_expr (pe_bm PySem.F.plainAttrs_list PySem.F.slot_list_extend PySem.F.type_list_extend mt_extend (pv 8)
            (pa_cons (pe_lc (own := [("tile", 11)]) (g := gName 11) (by rfl) scRowsAny.nd (pi_list (C8.pe_mt cF hr (by decide) (pv 0) (pa_cons (pv 10) (pa_cons (pv 7) pa_nil))))
              (blkOk_by (N := ["tiles", "floor", "left", "right", "good", "rows", "at", "south", "longer", "row", "west", "tile"]) (sc := defScope sRowsAny) (by decide +kernel))
              (fun _ _ _ _ _ => pg_name (i := 11) scRowsAny.nd rfl (Or.inl rfl))
              (fun _ _ _ _ _ => pts_one (pt_cmp (pc_din hu (pe_ix (ix_tupK K) (pv 11) pe_int (fun _ _ => rfl)) (pe_ix (ix_listK K) (pv 4) (pe_op op_add (pv 6) pe_int) (fun _ _ => rfl)))))
              (fun _ _ _ _ _ => pe_op (op_catK K) (pv 9) (pe_tup (pa_cons (pv 11) pa_nil)))) pa_nil)))
          (pss_one (ps_if (pt_cmpR op_gt (pe_callB call_len_seq (by rfl) B.len PySem.boot_len (pa_cons (pv 8) pa_nil)) (C8.pe_gc (by rfl) Z.rows) (nomark _)) (pss_one ps_never) pss_nil)))))
        (pss_one (ps_set (i := 5) scRowsAny.nd rfl (Or.inl rfl) (pv 8))))))
      (pss_one (ps_ret (pe_callB (cr_sortedB (fun x : Addr × List T4 => x.1) (fun x => rowD x.2)) (by rfl) B.sorted boot_sorted (pa_cons (pv 5) pa_nil))))))), ?_⟩
    -- good = _reaching(tiles, floor, right)
    refine ⟨_, rfl, _, rfl, _, rfl, S, F, dx, tt, d, as, f, right, rfl, hS, hT, st, hF, len, lena, fun H1 g gs s1 hg lg gd => ?_⟩
    obtain ⟨v0, hv0, d0, k0, rfl, hd0, iff0⟩ := gd 0 (Nat.zero_le _)
    -- if left not in good[0]
    refine ⟨_, rfl, _, rfl, g, gs, 0, .ref d0, rfl, rfl, sqL hg, atI_nat (j := 0) hv0, d0, _, rfl, DGet.k (k := Sum.inl left) hd0, _, rfl, ?_⟩
    have hfin : (valV k0 (.inl left)).isSome = true ↔ _root_.K23.Fin (Of as) right f left := iff0 left
    cases o with
    | none =>
      have no : (valV k0 (.inl left)).isSome = false := by
        cases e : (valV k0 (.inl left)).isSome with
        | false => rfl
        | true =>
          obtain ⟨r, hr⟩ := hfin.mp e
          exact absurd hr (one r)
      rw [no]
      refine iteT ?_
      refine ⟨Nat.zero_le _, fun l nl => ?_⟩
      exact q _ l (s1.trans (same_upd nl)) (s1.free nl) upd_same
    | some r =>
      have yes : (valV k0 (.inl left)).isSome = true := hfin.mpr ⟨r, (one r).mpr rfl⟩
      rw [yes]
      refine iteF ?_
      have lenr : r.length = f.length := ((one r).mpr rfl).length
      -- rows = [()]
      refine ⟨Nat.zero_le _, fun e ne => ⟨le_line (show 1 ≤ 100000 by decide), fun R nR => ?_⟩⟩
      have s2 : Same H1 (upd (upd H1 e (.tup [])) R (.lst [.ref e])) := (same_upd ne).trans (same_upd nR)
      have eR : e ≠ R := fun z => by
        rw [← z, upd_same] at nR
        cases nR
      -- for at, south in enumerate(floor)
      refine ⟨_, rfl, F, _, rfl, sqT ((s1.trans s2) _ _ hF), ?_⟩
      refine for_enumT (K := K) (a := F) (xs := f.map V.int) (fun i σ H2 => (∃ R y6 y7 y8 y9 y10 y11, σ = [some (.ref S), some (.ref F), some (.int left), some (.int right), some (.ref g), some (.ref R), y6, y7, y8, y9, y10, y11] ∧
          ∃ p rs, H2 R = some (.lst [.ref p]) ∧ H R = none ∧ H2 p = some (.tup (refs rs)) ∧ rs.map (·.2) = r.take i ∧ Stand H2 rs) ∧ Same H1 H2)
        ⟨⟨R, none, none, none, none, none, none, rfl, e, [], upd_same, s1.free ((same_upd ne).free nR), by rw [upd_ne eR, upd_same]; rfl, rfl, fun x hx => by cases hx⟩, s2⟩ (fun i σ H2 h2 => sqT ((s1.trans h2.2) _ _ hF)) ?_ ?_
      · rintro i x tp σ H2 hx ntp ⟨⟨R, y6, y7, y8, y9, y10, y11, rfl, p, rs, hR, nRH, hp, ers, srs⟩, s12⟩
        obtain ⟨south, hs, rfl⟩ := ints_get hx
        have li : i < f.length := (List.getElem?_eq_some_iff.mp hs).1
        obtain ⟨t, htr, tL, tw, tss, tfin, tu⟩ := _root_.K23.uniq_at one hs
        obtain ⟨v1, hv1, d1, k1, rfl, hd1, iff1⟩ := gd (i + 1) (by omega)
        have s23 : Same H2 (upd H2 tp (.tup [.int (i : Nat), .int south])) := same_upd ntp
        -- at, south = the pair
        refine ⟨tp, [.int (i : Nat), .int south], rfl, sqT upd_same, rfl, _, [_], rfl, _, [], rfl, rfl, ?_⟩
        generalize hH3 : upd H2 tp (.tup [.int (i : Nat), .int south]) = H3 at s23
        -- longer = []
        refine ⟨Nat.zero_le _, fun G nG => ?_⟩
        have s34 : Same H3 (upd H3 G (.lst [])) := same_upd nG
        have nGH1 : H1 G = none := (s12.trans s23).free nG
        -- for row in rows
        refine ⟨_, rfl, R, rfl, ⟨_, sqL (s34 _ _ (s23 _ _ hR))⟩, ?_⟩
        refine for_list (K := K) (a := R) (xs := [.ref p]) (fun j σ H4 => (∃ y9 y10, σ = [some (.ref S), some (.ref F), some (.int left), some (.int right), some (.ref g), some (.ref R), some (.int (i : Nat)), some (.int south), some (.ref G), y9, y10, y11]) ∧ (∀ b o, H3 b = some o → H4 b = some o) ∧
            ((j = 0 ∧ H4 G = some (.lst [])) ∨ (j = 1 ∧ ∃ p' rs', H4 G = some (.lst [.ref p']) ∧ H4 p' = some (.tup (refs rs')) ∧ rs'.map (·.2) = r.take (i + 1) ∧ Stand H4 rs')))
          ⟨⟨y9, y10, rfl⟩, s34, .inl ⟨rfl, upd_same⟩⟩ (fun j σ H4 _ h4 => sqL (h4.2.1 _ _ (s23 _ _ hR))) ?_ ?_
        · rintro j x σ H4 hxj ⟨⟨y9, y10, rfl⟩, s4, hj⟩
          have ej : j = 0 := by
            have := (List.getElem?_eq_some_iff.mp hxj).1
            simp at this
            exact this
          subst ej
          have ex : x = .ref p := by
            simp at hxj
            exact hxj.symm
          subst ex
          have hG4 : H4 G = some (.lst []) := by
            rcases hj with ⟨_, h⟩ | ⟨h, _⟩
            · exact h
            · cases h
          have hp4 : H4 p = some (.tup (refs rs)) := s4 _ _ (s23 _ _ hp)
          -- west = row[-1][0] if row else left
          have goWest : ∀ R2 : VK, R2 (.int (west left (r.take i))) H4 → tIf (fun σ H Q => tVar 9 σ H fun x H' => ∃ k, TruV K x H' k ∧ Q k H') (tOp (rIxT K) (tOp (rIxT K) (tVar 9) (tUn (rU fun i => .int (-i)) (tC (.int 1)))) (tC (.int 0))) (tVar 2)
              [some (.ref S), some (.ref F), some (.int left), some (.int right), some (.ref g), some (.ref R), some (.int (i : Nat)), some (.int south), some (.ref G), some (.ref p), y10, y11] H4 R2 := fun R2 h => by
            refine ⟨_, rfl, _, .inr (.inl ⟨refs rs, sqT hp4, rfl⟩), ?_⟩
            rw [← ers] at h
            by_cases en : rs = []
            · subst en
              refine iteF ⟨_, rfl, h⟩
            · have e1 := List.dropLast_concat_getLast en
              have e2 : (refs rs).isEmpty = false := by
                cases rs with
                | nil => exact absurd rfl en
                | cons a b => rfl
              rw [e2]
              have hl : H4 (rs.getLast en).1 = some (TileO (rs.getLast en).2) := s4 _ _ (s23 _ _ (srs _ (List.getLast_mem en)))
              have e3 : refs rs = refs rs.dropLast ++ [.ref (rs.getLast en).1] := by
                rw [refs_snoc rs.dropLast (rs.getLast en).1 (rs.getLast en).2]
                show refs rs = refs (rs.dropLast ++ [rs.getLast en])
                rw [e1]
              refine iteT ⟨_, rfl, 1, rfl, p, _, -1, _, rfl, rfl, sqT hp4, by rw [e3]; exact atI_last _ _, _, _, 0, _, rfl, rfl, sqT hl, atI_nat (j := 0) rfl, ?_⟩
              have e4 : west left (rs.map (·.2)) = (rs.getLast en).2.e := by
                have e5 : rs.getLast? = some (rs.getLast en) := List.getLast?_eq_some_getLast en
                unfold _root_.K23.west
                rw [List.getLast?_map, e5]
                rfl
              rw [e4] at h
              exact h
          refine goWest _ ?_
          -- longer.extend(..)
          generalize hW : west left (r.take i) = W at tw tu
          have s14 : Same H1 H4 := (s12.trans s23).trans s4
          have s04 : Same H H4 := s1.trans s14
          refine ⟨_, rfl, .inl ⟨rfl, _, sqL hG4⟩, _, rfl, S, dx, _, rfl, s04 _ _ hS, by rfl, _, rfl, _, rfl, S, dx, tt, d, W, south, as, kvs, rfl, s04 _ _ hS, s04 _ _ hd, bs.mono s04, fun H5 l s5 hl => ?_⟩
          generalize hys : as.filter (side W south) = ys at hl
          have subYs : ∀ y ∈ ys, y ∈ as ∧ y.2.w = W ∧ y.2.s = south := fun y hy => by
            rw [← hys] at hy
            obtain ⟨h1, h2⟩ := List.mem_filter.mp hy
            exact ⟨h1, of_decide_eq_true h2⟩
          have ndY : (ys.map (·.2)).Nodup := by
            rw [← hys]
            exact List.Nodup.sublist (List.filter_sublist.map _) nda
          have lenY : ys.length ≤ 100 := by
            rw [← hys]
            exact Nat.le_trans (List.length_filter_le _ _) lena
          obtain ⟨x0, hx0, ex0⟩ := List.mem_map.mp (show t ∈ as.map (·.2) from tL)
          have single : ys.filter (fun y => (valV k1 (.inl y.2.e)).isSome) = [x0] := by
            refine _root_.K23.filter_one ndY ?_ ?_ fun y hy gy => ?_
            · rw [← hys]
              exact List.mem_filter.mpr ⟨hx0, decide_eq_true ⟨by rw [ex0, tw], by rw [ex0, tss]⟩⟩
            · rw [ex0]
              exact (iff1 _).mpr tfin
            · obtain ⟨h1, h2, h3⟩ := subYs y hy
              rw [ex0]
              exact tu y.2 (List.mem_map.mpr ⟨y, h1, rfl⟩) h2 h3 ((iff1 _).mp gy)
          refine ⟨l, rfl, ⟨_, sqL hl⟩, fun D nD => ?_⟩
          have s05 : Same H H5 := s04.trans s5
          have hG5 := s5 _ _ hG4
          refine lc_list (K := K) (a := l) (xs := refs ys) (fun j H6 => Same H5 H6 ∧ ∃ qs : List (Addr × (Addr × T4)), qs.map (·.2) = (ys.take j).filter (fun y => (valV k1 (.inl y.2.e)).isSome) ∧ H6 D = some (.lst (qs.map fun q => V.ref q.1)) ∧
              ∀ q ∈ qs, H6 q.1 = some (.tup (refs (rs ++ [q.2])))) ⟨same_upd nD, [], rfl, upd_same, fun q hq => by cases hq⟩ (fun j H6 _ h6 => sqL (h6.1 _ _ hl)) (fun j x H6 hx h6 => ?_) fun H6 h6 => ?_
          · obtain ⟨s6, qs, eqs, hD6, sq⟩ := h6
            obtain ⟨y, hy, rfl, hm⟩ := refs_get hx
            obtain ⟨ya, yw, ys'⟩ := subYs y hm
            have hy6 : H6 y.1 = some (TileO y.2) := s6 _ _ (s05 _ _ (st y ya))
            have hg6 : H6 g = some (.lst gs) := s6 _ _ (s5 _ _ (s14 _ _ hg))
            have hd6 : H6 d1 = some (.dK k1) := s6 _ _ (s5 _ _ (s14 _ _ hd1))
            have hp6 : H6 p = some (.tup (refs rs)) := s6 _ _ (s5 _ _ hp4)
            have take1 : (ys.take (j + 1)).filter (fun y => (valV k1 (.inl y.2.e)).isSome) = (ys.take j).filter (fun y => (valV k1 (.inl y.2.e)).isSome) ++ [y].filter (fun y => (valV k1 (.inl y.2.e)).isSome) := by
              rw [List.take_add_one, hy, ← List.filter_append]
              rfl
            refine ⟨rfl, ?_⟩
            refine ⟨_, rfl, y.1, _, 0, _, rfl, rfl, sqT hy6, atI_nat (j := 0) rfl, _, rfl, _, rfl, _, _, rfl, rfl, g, gs, _, .ref d1, rfl, rfl, sqL hg6, at_of (j := i + 1) (by omega) hv1, d1, _, rfl, DGet.k (k := Sum.inl y.2.e) hd6, _, rfl, ?_⟩
            refine ite2 (fun gy => ?_) (fun gy => ?_)
            · -- the new tuple z
              have lenq : qs.length ≤ 100 := by
                have := congrArg List.length eqs
                rw [List.length_map] at this
                have h2 := List.length_filter_le (fun y : Addr × T4 => (valV k1 (.inl y.2.e)).isSome) (ys.take j)
                rw [List.length_take] at h2
                omega
              have fin : ∀ (Hz : Hp) (z : Addr), Same H6 Hz → H6 z = none → Hz z = some (.tup (refs (rs ++ [y]))) → ∃ acc, Hz D = some (.lst acc) ∧ acc.length < sizeLine ∧ Same H5 (upd Hz D (.lst (acc ++ [.ref z]))) ∧
                  ∃ qs : List (Addr × (Addr × T4)), qs.map (·.2) = (ys.take (j + 1)).filter (fun y => (valV k1 (.inl y.2.e)).isSome) ∧ upd Hz D (.lst (acc ++ [.ref z])) D = some (.lst (qs.map fun q => V.ref q.1)) ∧ ∀ q ∈ qs, upd Hz D (.lst (acc ++ [.ref z])) q.1 = some (.tup (refs (rs ++ [q.2]))) := fun Hz z sz nz hz => by
                refine ⟨_, sz _ _ hD6, by rw [List.length_map]; exact lt_line (by omega), same_over (s6.trans sz) nD, qs ++ [(z, y)], ?_, ?_, fun q hq => ?_⟩
                · rw [List.map_append, eqs, take1, List.filter_cons_of_pos (p := fun y : Addr × T4 => (valV k1 (.inl y.2.e)).isSome) gy]
                  rfl
                · rw [upd_same, List.map_append]
                  rfl
                · have nD2 : ∀ {b xs}, Hz b = some (.tup xs) → b ≠ D := fun {b xs} hb => ne_of hb (sz _ _ hD6) (by intro z; cases z)
                  rcases List.mem_append.mp hq with hq | hq
                  · have := sz _ _ (sq q hq)
                    rw [upd_ne (nD2 this)]
                    exact this
                  · rw [List.mem_singleton.mp hq, upd_ne (nD2 hz)]
                    exact hz
              refine ⟨_, rfl, _, rfl, le_line (show 1 ≤ 100000 by decide), fun q2 nq2 => ?_⟩
              have sq2 : Same H6 (upd H6 q2 (.tup [.ref y.1])) := same_upd nq2
              have lenrs : rs.length ≤ 60 := by
                have := congrArg List.length ers
                rw [List.length_map, List.length_take] at this
                omega
              refine ⟨p, q2, refs rs, [.ref y.1], rfl, rfl, sqT (sq2 _ _ hp6), sqT upd_same, le_line (by rw [List.length_map]; show rs.length + 1 ≤ 100000; omega), fun en => ?_, fun _ en => (by cases en), fun en _ p3 np3 => ?_⟩
              · have : rs = [] := List.map_eq_nil_iff.mp en
                subst this
                exact fin _ q2 sq2 nq2 upd_same
              · refine fin _ p3 (sq2.trans (same_upd np3)) (sq2.free np3) ?_
                rw [upd_same]
                congr 2
                exact refs_snoc rs y.1 y.2
            · refine ⟨s6, qs, ?_, hD6, sq⟩
              rw [eqs, take1, List.filter_cons_of_neg (p := fun y : Addr × T4 => (valV k1 (.inl y.2.e)).isSome) gy, List.filter_nil, List.append_nil]
          · obtain ⟨s6, qs, eqs, hD6, sq⟩ := h6
            rw [show (refs ys).length = ys.length from List.length_map _, List.take_length, single] at eqs
            obtain ⟨z, rfl⟩ : ∃ z, qs = [(z, x0)] := by
              match qs, eqs with
              | [(z, y)], e =>
                have : y = x0 := by simpa using e
                exact ⟨z, by rw [this]⟩
              | [], e => cases e
              | _ :: _ :: _, e => cases e
            have hz := sq (z, x0) (List.mem_singleton.mpr rfl)
            have hG6 := s6 _ _ hG5
            refine ⟨G, D, [], [.ref z], rfl, rfl, hG6, hD6, Nat.le_of_lt (lt_line (show 1 ≤ 100000 by decide)), ?_⟩
            -- if len(longer) > MOST_ROWS
            refine ⟨_, rfl, G, _, rfl, .inl (sqL upd_same), _, _, rfl, rfl, _, rfl, ?_⟩
            refine iteF ⟨⟨_, _, rfl⟩, fun b o hb => ?_, .inr ⟨rfl, z, rs ++ [x0], upd_same, ?_, ?_, fun y hy => ?_⟩⟩
            · rw [upd_ne (ne_of_none hb nG)]
              exact s6 _ _ (s5 _ _ (s4 _ _ hb))
            · rw [upd_ne (ne_of hz hG6 (by intro z; cases z))]
              exact hz
            · rw [List.map_append, ers, ← take_snoc htr, ← ex0]
              rfl
            · have kz : ∀ {b u}, H6 b = some (TileO u) → upd H6 G (.lst ([] ++ [.ref z])) b = some (TileO u) := fun {b u} hb => by
                rw [upd_ne (ne_of hb hG6 (by intro z; cases z))]
                exact hb
              rcases List.mem_append.mp hy with hy | hy
              · exact kz (s6 _ _ (s5 _ _ (s4 _ _ (s23 _ _ (srs y hy)))))
              · rw [List.mem_singleton.mp hy]
                exact kz (s6 _ _ (s05 _ _ (st x0 hx0)))
        · rintro σ H4 ⟨⟨y9, y10, rfl⟩, s4, hj⟩
          rcases hj with ⟨h, _⟩ | ⟨_, p', rs', hG4, hp4, ers', srs'⟩
          · cases h
          · exact ⟨_, rfl, ⟨G, _, _, _, _, _, _, rfl, p', rs', hG4, s1.free nGH1, hp4, ers', srs'⟩, (s12.trans s23).trans s4⟩
      · rintro σ H2 ⟨⟨R, y6, y7, y8, y9, y10, y11, rfl, p, rs, hR, nRH, hp, ers, srs⟩, s12⟩
        have er : rs.map (·.2) = r := by rw [ers, flen, List.take_of_length_le (by omega)]
        obtain ⟨t0, r0, er0⟩ : ∃ t0 r0, r = t0 :: r0 := by
          cases r with
          | nil =>
            rw [← lenr] at pos
            exact absurd pos (by decide)
          | cons a b => exact ⟨a, b, rfl⟩
        refine ⟨_, rfl, R, [(p, r)], rfl, sqL hR, fun b hb => ?_, fun a ha b hb => ?_, .inl fun a ha => ?_, fun b hb => ?_, fun bs' l pm2 nl => ?_⟩
        · rw [List.mem_singleton.mp hb]
          have := row_dp (K := K) hp srs
          rw [er] at this
          exact this
        · rw [List.mem_singleton.mp ha, List.mem_singleton.mp hb]
          show PySem.W.alike (rowD r) (rowD r) = true
          unfold rowD
          rw [PySem.W.alike]
          exact row_alike r r rfl
        · rw [List.mem_singleton.mp ha]
          exact ⟨tileD t0, r0.map tileD, by rw [er0]; rfl⟩
        · rw [List.mem_singleton.mp hb]
          have h1 := row_depth r
          have un := hr.un
          refine Nat.lt_of_le_of_lt ?_ un
          show (A.deeper _).units + 2 + (rowD r).depth ≤ (A.deeper _).units + 16 * 1 + 200
          omega
        · have e : bs' = [(p, r)] := List.perm_singleton.mp pm2
          subst e
          have sl := same_upd (o := .lst ([(p, r)].map fun b => V.ref b.1)) nl
          refine q _ l ((s1.trans s12).trans sl) ((s1.trans s12).free nl) ⟨p, upd_same, rs, er, sl _ _ hp, srs.mono sl⟩
/-! ### rows_on -/
theorem scRowsOn : FnScope ["tiles", "floor", "left", "right"] ["tiles", "floor", "left", "right"] (defScope sRowsOn) := ⟨rfl, rfl, rfl, by decide +kernel, rfl, by decide +kernel, by decide +kernel⟩
theorem ok_rowsOn {f : Addr} {fd : FuncData} (F : Fun K "rows_on" "rows_on" sRowsOn f fd) (B : Bi mg) (Z : Cs mg) (cR : C8.Cal P w K mg base 2 "rows_of_any_length" (spRows C) []) : FnOk P w K mg base CX0 3 f fd ["tiles", "floor", "left", "right"] (spRows C) := by
  refine F.ok scRowsOn (fun vs H Q E h => ?_) (fun cdv A outer s H vs Q E hr h => ?_)
  · obtain ⟨S, F, ts, f, left, right, o, rfl, _⟩ := h
    rfl
  · obtain ⟨S, F, ts, f, left, right, o, rfl, hS, nd, lent, hF, pos, len, one, q⟩ := h
    refine ⟨_, pss_cons (ps_if (pt_cmpR op_gt (pe_callB call_len_seq (by rfl) B.len PySem.boot_len (pa_cons (pv 1) pa_nil)) (C8.pe_gc (by rfl) Z.floor) (nomark _)) (pss_one ps_never) pss_nil)
      (pss_one (ps_ret (C8.pe_c cR hr (by decide) (by rfl) (pa_cons (pv 0) (pa_cons (pv 1) (pa_cons (pv 2) (pa_cons (pv 3) pa_nil))))))), ?_⟩
    refine ⟨_, rfl, F, _, rfl, .inr hF.sq, _, _, rfl, rfl, _, rfl, ?_⟩
    rw [List.length_map, decide_eq_false (by omega)]
    exact iteF ⟨_, rfl, _, rfl, _, rfl, _, rfl, S, F, ts, f, left, right, o, rfl, hS, nd, lent, hF, pos, len, one, q⟩
end
end L2.K23
set_option Elab.async false
set_option linter.all false
set_option maxRecDepth 100000
set_option maxHeartbeats 4000000
/-! ways. -/
namespace L2.K23
open PySem PySem.Spec PyProof.Rows
open _root_.K23 (T4 Mach Cfg IsRow Run)
theorem for_keysT {d : Addr} {od : Obj} {kvs : List (List Key × V)} {g : TG} {tb : TS} {D : Ends} {σ : St} {H : Hp} (Pv : Nat → St → Hp → Prop) (h0 : Pv 0 σ H) (hl : ∀ i σ H, Pv i σ H → H d = some (.frz od (.dT kvs)))
    (hs : ∀ i k v q σ H, kvs[i]? = some (k, v) → H q = some (.tup (k.map kV)) → Pv i σ H → g (.ref q) σ H fun σ2 H2 => tb { D with nx := Pv (i + 1), ct := Pv (i + 1), bk := D.nx } σ2 H2) (hd : ∀ σ H, Pv kvs.length σ H → D.nx σ H) :
    ∃ W : Nat → Nat → St → Hp → Prop, (∃ m, W 0 m σ H) ∧ ∀ i m σ H, W i m σ H → ((Itkt d od kvs).stop i H ∧ D.nx σ H) ∨
      ((Itkt d od kvs).go i H ∧ ∃ N : St → Hp → Prop, (∀ σ' H', N σ' H' → ∃ m', m' < m ∧ W (i + 1) m' σ' H') ∧ ∀ x H', (Itkt d od kvs).yld i H x H' → g x σ H' fun σ2 H2 => tb { D with nx := N, ct := N, bk := D.nx } σ2 H2) := by
  refine ⟨fun i m σ H => m = kvs.length - i ∧ i ≤ kvs.length ∧ Pv i σ H, ⟨kvs.length, rfl, Nat.zero_le _, h0⟩, ?_⟩
  rintro i m σ H ⟨rfl, hi, p⟩
  have q := hl i σ H p
  by_cases lt : i < kvs.length
  · refine .inr ⟨⟨q, lt⟩, Pv (i + 1), fun σ' H' p' => ⟨kvs.length - (i + 1), by omega, rfl, lt, p'⟩, fun x H' y => ?_⟩
    obtain ⟨rfl, k, v, b, e1, rfl, e2⟩ := y
    exact hs i k v b σ H' e1 e2 p
  · have e : i = kvs.length := by omega
    subst e
    exact .inl ⟨⟨q, Nat.le_refl _⟩, hd σ H p⟩
/-! ### floors as keys -/
def floorK (f : List Int) : List Key := f.map Sum.inl
theorem floorK_kV (f : List Int) : (floorK f).map kV = f.map V.int := by
  unfold floorK
  rw [List.map_map]
  rfl
theorem floorK_inj {f g : List Int} (h : floorK f = floorK g) : f = g := by
  unfold floorK at h
  exact (List.map_inj_right fun a b e => Sum.inl.inj e).mp h
theorem TupI.key {H : Hp} {a : Addr} {f : List Int} (h : TupI H a f) : H a = some (.tup ((floorK f).map kV)) := by
  rw [floorK_kV]
  exact h
/-- what stands on a floor is one -/
theorem one_unique {L : T4 → Prop} {left right : Int} {f : List Int} {o o' : Option (List T4)} (h : One L left right f o) (h' : One L left right f o') : o = o' := by
  cases o with
  | none =>
    cases o' with
    | none => rfl
    | some r => exact absurd ((h' r).mpr rfl) (h r)
  | some r =>
    cases o' with
    | none => exact absurd ((h r).mpr rfl) (h' r)
    | some r' => rw [(h' r).mp ((h r).mpr rfl)]
/-- the state of the fillings: at the floor f with n rows to come, or nowhere -/
inductive Alive (L : T4 → Prop) (n : Nat) : Option (List Int × List (List T4)) → Prop
  | no : Alive L n none
  | yes (f : List Int) (rs : List (List T4)) : Run L f n rs → 0 < f.length → f.length ≤ 60 → Alive L n (some (f, rs))
theorem Run.step {L : T4 → Prop} {f : List Int} {n : Nat} {rs : List (List T4)} (h : Run L f (n + 1) rs) : f.length ≤ 60 ∧ ((rs = [] ∧ One L 0 0 f none) ∨ ∃ r rs', rs = r :: rs' ∧ One L 0 0 f (some r) ∧ Run L (r.map T4.n) n rs') := h
theorem north_len {L : T4 → Prop} {f : List Int} {r : List T4} (h : One L 0 0 f (some r)) : (r.map T4.n).length = f.length := by
  rw [List.length_map]
  exact ((h r).mpr rfl).length
/-- how many rows were taken -/
def Taken (rs : List (List T4)) (h i : Nat) : Option (List Int × List (List T4)) → Prop
  | none => rs.length ≠ h
  | some (_, rs') => rs.length = i + rs'.length
theorem Alive.get {L : T4 → Prop} {n : Nat} {f : List Int} {rs : List (List T4)} (a : Alive L n (some (f, rs))) : Run L f n rs ∧ 0 < f.length ∧ f.length ≤ 60 := by
  cases a with
  | yes _ _ h1 h2 h3 => exact ⟨h1, h2, h3⟩
def cnt : Option (List Int × List (List T4)) → List (List Key × V)
  | none => []
  | some (f, _) => [(floorK f, .int 1)]
section
variable {P : Program} {w : World} {K : PySem.W.Frag} {mg : Str → Option Value} {base : Heap} {C : Addr}
theorem scWays : FnScope ["tiles", "floor", "left", "right", "height", "counts", "_", "after", "one", "row", "north"] ["tiles", "floor", "left", "right", "height"] (defScope sWays) := ⟨rfl, rfl, rfl, by decide +kernel, rfl, by decide +kernel, by decide +kernel⟩
def spWays (C : Addr) : Sp := fun vs H Q _ => ∃ (S F : Addr) (ts : List T4) (f : List Int) (h : Nat) (rs : List (List T4)), vs = [.ref S, .ref F, .int 0, .int 0, .int (h : Int)] ∧ TilesAt C H S ts ∧ ts.Nodup ∧ ts.length ≤ 100 ∧ TupI H F f ∧ 0 < f.length ∧ f.length ≤ 60 ∧ h ≤ 60 ∧
  Run (fun t => t ∈ ts) f h rs ∧ ∀ H', Same H H' → Q (.int (if rs.length = h then 1 else 0)) H'
theorem ok_ways {f : Addr} {fd : FuncData} (F : Fun K "ways" "ways" sWays f fd) (B : Bi mg) (Z : Cs mg) (cS : C8.Cal P w K mg base 1 "_check_size" spCheckSize []) (cR : C8.Cal P w K mg base 3 "rows_on" (spRows C) []) (cN : C8.Cal P w K mg base 1 "next_floor" spNextFloor []) :
    FnOk P w K mg base CX0 4 f fd ["tiles", "floor", "left", "right", "height"] (spWays C) := by
  refine F.ok scWays (fun vs H Q E h => ?_) (fun cdv A outer s H vs Q E hr h => ?_)
  · obtain ⟨S, F, ts, f, h, rs, rfl, _⟩ := h
    rfl
  · obtain ⟨S, F, ts, f, h, rs, rfl, hS, nd, lent, hF, pos, len, hh, run, q⟩ := h
    have hu := hu_of hr
    refine ⟨_, pss_cons (ps_expr (C8.pe_c cS hr (by decide) (by rfl) (pa_cons (pv 1) (pa_cons (pv 4) pa_nil))))
      (pss_cons (ps_set (i := 5) scWays.nd rfl (Or.inl rfl) (pe_disp1T hu (pv 1) pe_int))
      (pss_cons (ps_for PassesOwn.never rfl (pi_range1 (by rfl) B.range (pa_cons (pv 4) pa_nil)) (pg_name (i := 6) scWays.nd rfl (Or.inl rfl))
        (pss_cons (ps_set (i := 7) scWays.nd rfl (Or.inl rfl) pe_dnewT)
        (pss_cons (ps_lock (ps_for PassesOwn.never rfl (pi_keys (pv 5)) (pg_name (i := 8) scWays.nd rfl (Or.inl rfl))
          (pss_one (ps_for PassesOwn.never rfl (pi_list (C8.pe_c cR hr (by decide) (by rfl) (pa_cons (pv 0) (pa_cons (pv 8) (pa_cons (pv 2) (pa_cons (pv 3) pa_nil)))))) (pg_name (i := 9) scWays.nd rfl (Or.inl rfl))
            (pss_cons (ps_set (i := 10) scWays.nd rfl (Or.inl rfl) (C8.pe_c cN hr (by decide) (by rfl) (pa_cons (pv 9) pa_nil)))
            (pss_one (ps_dput hu (pv 7) (pv 10) (pe_op op_add (pe_dget2 hu (pv 7) (pv 10) pe_int ⟨rfl, rfl, rfl, rfl⟩) (pe_dget hu (pv 5) (pv 8) (fun _ _ => rfl))) rfl)))))))
        (pss_cons (ps_if (pt_cmpR op_gt (pe_callB call_len_dT (by rfl) B.len PySem.boot_len (pa_cons (pv 7) pa_nil)) (C8.pe_gc (by rfl) Z.floors) (nomark _)) (pss_one ps_never) pss_nil)
        (pss_one (ps_set (i := 5) scWays.nd rfl (Or.inl rfl) (pv 7)))))))
      (pss_one (ps_ret (pe_callB (cr_sumV rfl) (by rfl) B.sum boot_sum (pa_cons (pe_bm0 PySem.F.plainAttrs_dict PySem.F.slot_dict_values PySem.F.type_dict_values mt_valuesT (pv 5)) pa_nil)))))), ?_⟩
    -- _check_size(floor, height)
    refine ⟨_, rfl, _, rfl, F, f, (h : Int), rfl, hF, len, by omega, ?_⟩
    -- counts = {floor: 1}
    intro D0 nD0
    refine ⟨_, rfl, floorK f, F, upd_same, rfl, ?_, ?_⟩
    · rw [floorK_kV]
      exact same_upd nD0 _ _ hF
    rw [upd_upd]
    -- for _ in range(height)
    refine ⟨_, rfl, (h : Int), rfl, by omega, by omega, ?_⟩
    refine for_range (lo := 0) (n := h) (fun i σ H1 => Same H H1 ∧ ∃ (D : Addr) (y6 y7 y8 y9 y10 : Option V) (o : Option (List Int × List (List T4))),
        σ = [some (.ref S), some (.ref F), some (.int 0), some (.int 0), some (.int (h : Int)), some (.ref D), y6, y7, y8, y9, y10] ∧ H D = none ∧ H1 D = some (.dT (cnt o)) ∧ Alive (fun t => t ∈ ts) (h - i) o ∧ Taken rs h i o)
      ⟨same_upd nD0, D0, none, none, none, none, none, some (f, rs), rfl, nD0, upd_same, .yes f rs run pos len, (Nat.zero_add _).symm⟩ ?_ ?_
    · rintro i σ H1 hi ⟨s1, D, y6, y7, y8, y9, y10, o, rfl, nD, hD, al, hl⟩
      -- after = {}
      intro A0 nA
      have nAH : H A0 = none := s1.free nA
      have DA : D ≠ A0 := ne_of_none hD nA
      have s2 : Same H (upd H1 A0 (.dT [])) := same_over s1 nAH
      -- for one in counts
      refine ⟨D, .dT (cnt o), by rw [upd_ne DA]; exact hD, True.intro, fun od => ?_⟩
      have hA3 : upd (upd H1 A0 (.dT [])) D (.frz od (.dT (cnt o))) A0 = some (.dT []) := by rw [upd_ne DA.symm, upd_same]
      have hD3 : upd (upd H1 A0 (.dT [])) D (.frz od (.dT (cnt o))) D = some (.frz od (.dT (cnt o))) := upd_same
      have s3 : Same H (upd (upd H1 A0 (.dT [])) D (.frz od (.dT (cnt o)))) := same_over s2 nD
      generalize hH3 : upd (upd H1 A0 (.dT [])) D (.frz od (.dT (cnt o))) = H3 at s3 hA3 hD3
      refine ⟨_, rfl, D, od, rfl, .inr ⟨cnt o, hD3, ?_⟩⟩
      -- what the turn brings
      refine for_keysT (d := D) (od := od) (kvs := cnt o) (fun j σ H4 => Same H H4 ∧ H4 D = some (.frz od (.dT (cnt o))) ∧ ∃ (y8 y9 y10 : Option V) (o' : Option (List Int × List (List T4))),
          σ = [some (.ref S), some (.ref F), some (.int 0), some (.int 0), some (.int (h : Int)), some (.ref D), some (.int (0 + (i : Int))), some (.ref A0), y8, y9, y10] ∧ H4 A0 = some (.dT (cnt o')) ∧
          ((j = 0 ∧ o' = none) ∨ (j = 1 ∧ Alive (fun t => t ∈ ts) (h - (i + 1)) o' ∧ Taken rs h (i + 1) o')))
        ⟨s3, hD3, y8, y9, y10, none, rfl, hA3, .inl ⟨rfl, rfl⟩⟩ (fun j σ H4 h4 => h4.2.1) ?_ ?_
      · rintro j k v p σ H4 hk hp ⟨s4, hD4, y8, y9, y10, o', rfl, hA4, hj⟩
        cases o with
        | none => simp [cnt] at hk
        | some fr =>
          obtain ⟨f1, rs1⟩ := fr
          have ej : j = 0 := by
            have := (List.getElem?_eq_some_iff.mp hk).1
            simp [cnt] at this
            exact this
          subst ej
          have ek : floorK f1 = k ∧ V.int 1 = v := by
            simp [cnt] at hk
            exact hk
          obtain ⟨rfl, rfl⟩ := ek
          have eo : o' = none := by
            rcases hj with ⟨_, e⟩ | ⟨e, _⟩
            · exact e
            · cases e
          subst eo
          have hp1 : TupI H4 p f1 := by
            rw [floorK_kV] at hp
            exact hp
          obtain ⟨run1, pos1, len1⟩ := al.get
          have en : h - i = (h - (i + 1)) + 1 := by omega
          rw [en] at run1
          obtain ⟨_, hc⟩ := Run.step run1
          have hl1 : rs.length = i + rs1.length := hl
          rcases hc with ⟨rfl, one⟩ | ⟨r, rs2, rfl, one, run2⟩
          · -- no row stands
            refine ⟨_, rfl, _, rfl, _, rfl, _, rfl, S, p, ts, f1, 0, 0, none, rfl, hS.mono s4, nd, lent, hp1, pos1, len1, one, fun H5 l s5 nl hl5 => ?_⟩
            refine ⟨l, rfl, ⟨_, sqL hl5⟩, ?_⟩
            refine for_list (K := K) (a := l) (xs := []) (fun m σ H6 => H6 = H5 ∧ σ = [some (.ref S), some (.ref F), some (.int 0), some (.int 0), some (.int (h : Int)), some (.ref D), some (.int (0 + (i : Int))), some (.ref A0), some (.ref p), y9, y10]) ⟨rfl, rfl⟩
              (fun m σ H6 _ h6 => by rw [h6.1]; exact sqL hl5) (fun m x σ H6 hx => by simp at hx) ?_
            rintro σ H6 ⟨rfl, rfl⟩
            refine ⟨s4.trans s5, s5 _ _ hD4, _, _, _, none, rfl, s5 _ _ hA4, .inr ⟨rfl, .no, ?_⟩⟩
            show rs.length ≠ h
            rw [hl1]
            show i + 0 ≠ h
            omega
          · -- one row stands
            refine ⟨_, rfl, _, rfl, _, rfl, _, rfl, S, p, ts, f1, 0, 0, some r, rfl, hS.mono s4, nd, lent, hp1, pos1, len1, one, fun H5 l s5 nl hl5 => ?_⟩
            obtain ⟨p5, hl5, row5⟩ := hl5
            have lenn := north_len one
            refine ⟨l, rfl, ⟨_, sqL hl5⟩, ?_⟩
            refine for_list (K := K) (a := l) (xs := [.ref p5]) (fun m σ H6 => H6 l = some (.lst [.ref p5]) ∧ Same H H6 ∧ H6 D = some (.frz od (.dT (cnt (some (f1, r :: rs2))))) ∧ (∃ y9 y10, σ = [some (.ref S), some (.ref F), some (.int 0), some (.int 0), some (.int (h : Int)), some (.ref D), some (.int (0 + (i : Int))), some (.ref A0), some (.ref p), y9, y10]) ∧
                TupI H6 p f1 ∧ RowAt H6 p5 r ∧ ((m = 0 ∧ H6 A0 = some (.dT [])) ∨ (m = 1 ∧ H6 A0 = some (.dT [(floorK (r.map T4.n), .int 1)]))))
              ⟨hl5, s4.trans s5, s5 _ _ hD4, ⟨y9, y10, rfl⟩, s5 _ _ hp1, row5, .inl ⟨rfl, s5 _ _ hA4⟩⟩ (fun m σ H6 _ h6 => sqL h6.1) ?_ ?_
            · rintro m x σ H6 hx ⟨hl6, s6, hD6, ⟨y9, y10, rfl⟩, hp6, row6, hm⟩
              have em : m = 0 := by
                have := (List.getElem?_eq_some_iff.mp hx).1
                simp at this
                exact this
              subst em
              have ex : x = .ref p5 := by
                simp at hx
                exact hx.symm
              subst ex
              have hA6 : H6 A0 = some (.dT []) := by
                rcases hm with ⟨_, e⟩ | ⟨e, _⟩
                · exact e
                · cases e
              -- north = next_floor(row)
              refine ⟨_, rfl, p5, r, rfl, row6, by rw [List.length_map] at lenn; omega, fun H7 N s7 nN hN => ?_⟩
              have hA7 := s7 _ _ hA6
              have hD7 := s7 _ _ hD6
              -- after[north] = after.get(north, 0) + counts[one]
              refine ⟨_, rfl, A0, rfl, .inr ⟨[], .inl hA7⟩, _, rfl, none, DGet.t (k := floorK (r.map T4.n)) hA7 hN.key, ?_⟩
              refine ⟨_, rfl, _, rfl, D, .int 1, rfl, .inr ⟨_, floorK f1, p, .inr ⟨od, hD7⟩, rfl, TupI.key (s7 _ _ hp6), ?_⟩, 0, 1, rfl, rfl, ?_⟩
              · exact (valV_pos (p := (floorK f1, V.int 1)) (r := []) rfl).symm
              refine ⟨_, rfl, _, rfl, A0, _, rfl, DPut.t (k := floorK (r.map T4.n)) hA7 hN.key (lt_line (show 0 ≤ 100000 by decide)), ?_⟩
              have kA : ∀ {b z}, H7 b = some z → z ≠ .dT [] → ∀ u, upd H7 A0 u b = some z := fun {b z} hb hz u => by
                rw [upd_ne (ne_of hb hA7 hz)]
                exact hb
              refine ⟨kA (s7 _ _ hl6) (by intro z; cases z) _, same_over (s6.trans s7) nAH, kA hD7 (by intro z; cases z) _, ⟨_, _, rfl⟩, kA (s7 _ _ hp6) (by intro z; cases z) _, ?_, .inr ⟨rfl, upd_same⟩⟩
              obtain ⟨as, e1, e2, e3⟩ := row6.mono s7
              exact ⟨as, e1, kA e2 (by intro z; cases z) _, fun x hx => kA (e3 x hx) (by intro z; cases z) _⟩
            · rintro σ H6 ⟨hl6, s6, hD6, ⟨y9, y10, rfl⟩, hp6, row6, hm⟩
              have hA6 : H6 A0 = some (.dT [(floorK (r.map T4.n), .int 1)]) := by
                rcases hm with ⟨e, _⟩ | ⟨_, e⟩
                · cases e
                · exact e
              refine ⟨s6, hD6, _, _, _, some (r.map T4.n, rs2), rfl, hA6, .inr ⟨rfl, .yes _ rs2 run2 (by omega) (by omega), ?_⟩⟩
              show rs.length = i + 1 + rs2.length
              rw [hl1, List.length_cons]
              omega
      · rintro σ H4 ⟨s4, hD4, y8, y9, y10, o', rfl, hA4, hj⟩
        have fin : Alive (fun t => t ∈ ts) (h - (i + 1)) o' ∧ Taken rs h (i + 1) o' := by
          rcases hj with ⟨e, rfl⟩ | ⟨_, h2⟩
          · cases o with
            | none => exact ⟨.no, hl⟩
            | some fr => cases e
          · exact h2
        have hA5 : upd H4 D (.dT (cnt o)) A0 = some (.dT (cnt o')) := by
          rw [upd_ne DA.symm]
          exact hA4
        have lenO : (cnt o').length ≤ 1 := by
          cases o' with
          | none => exact Nat.zero_le _
          | some fr => exact Nat.le_refl _
        refine ⟨hD4, ?_⟩
        refine ⟨_, rfl, A0, cnt o', rfl, hA5, _, _, rfl, rfl, _, rfl, ?_⟩
        rw [decide_eq_false (by omega)]
        refine iteF ?_
        exact ⟨_, rfl, same_over s4 nD, A0, _, _, _, _, _, o', rfl, nAH, hA5, fin.1, fin.2⟩
    · rintro σ H1 ⟨s1, D, y6, y7, y8, y9, y10, o, rfl, nD, hD, al, hl⟩
      -- sum(counts.values())
      refine ⟨_, rfl, .inr (.inr (.inl ⟨rfl, .inr ⟨_, hD⟩⟩)), D, cnt o, rfl, rfl, hD, fun p np => ?_⟩
      have Dp : D ≠ p := ne_of_none hD np
      refine ⟨p, D, cnt o, rfl, upd_same, by rw [upd_ne Dp]; exact hD, ?_⟩
      have s2 : Same H (upd H1 p (valuesO p D)) := s1.trans (same_upd np)
      cases o with
      | none =>
        have hl : rs.length ≠ h := hl
        have := q _ s2
        rw [if_neg hl] at this
        exact .inl ⟨rfl, this⟩
      | some fr =>
        obtain ⟨f1, rs1⟩ := fr
        obtain ⟨run1, _, _⟩ := al.get
        have e0 : h - h = 0 := Nat.sub_self h
        rw [e0] at run1
        have e1 : rs1 = [] := run1
        have hl : rs.length = h + rs1.length := hl
        rw [e1] at hl
        have := q _ s2
        rw [if_pos (show rs.length = h from hl)] at this
        exact .inr ⟨_, 1, rfl, this⟩
end
end L2.K23
set_option Elab.async false
set_option linter.all false
set_option maxRecDepth 100000
set_option maxHeartbeats 4000000
/-! is_filling. -/
namespace L2.K23
open PySem PySem.Spec PyProof.Rows
open _root_.K23 (T4 Mach Cfg IsRow Run Filled floorAt west)
section
variable {X : Cx}
theorem pe_fldK (K : PySem.W.Frag) {e : Expr} {f : Str} {ta : TE} {pos : Pos} (he : PE X e ta) (hb : attributeBase e f X.env (eval e X.env) = eval e X.env) (h : X.K = K := by rfl) : PE X (.Attribute e f pos) (tFld K ta f) := h ▸ pe_fld he hb
theorem op_inTK (K : PySem.W.Frag) (hu : X.A.units + 65 < cLine) (h : X.K = K := by rfl) : OpR X (compareOp .In) (rInT K false) := h ▸ op_inT hu
end
/-- the rows of a filling, in a list -/
def RowsIn (H : Hp) (R : Addr) (rs : List (List T4)) : Prop := ∃ ps : List Addr, H R = some (.lst (ps.map V.ref)) ∧ ps.length = rs.length ∧ ∀ (i : Nat) (p : Addr) (r : List T4), ps[i]? = some p → rs[i]? = some r → RowAt H p r
theorem RowsIn.mono {H H' : Hp} {R : Addr} {rs : List (List T4)} (h : RowsIn H R rs) (s : Same H H') : RowsIn H' R rs := by
  obtain ⟨ps, h1, h2, h3⟩ := h
  exact ⟨ps, s _ _ h1, h2, fun i p r e1 e2 => (h3 i p r e1 e2).mono s⟩
theorem addr_get {ps : List Addr} {i : Nat} {x : V} (h : (ps.map V.ref)[i]? = some x) : ∃ p, ps[i]? = some p ∧ x = .ref p := by
  rw [List.getElem?_map] at h
  cases e : ps[i]? with
  | none =>
    rw [e] at h
    cases h
  | some p =>
    rw [e] at h
    exact ⟨p, rfl, (Option.some.inj h).symm⟩
section
variable {P : Program} {w : World} {K : PySem.W.Frag} {mg : Str → Option Value} {base : Heap} {C : Addr}
theorem scIsFilling : FnScope ["tiles", "floor", "left", "right", "rows", "row", "tile", "west", "south"] ["tiles", "floor", "left", "right", "rows"] (defScope sIsFilling) := ⟨rfl, rfl, rfl, by decide +kernel, rfl, by decide +kernel, by decide +kernel⟩
def spIsFilling (C : Addr) : Sp := fun vs H Q _ => ∃ (S F R : Addr) (ts : List T4) (f : List Int) (rs : List (List T4)), vs = [.ref S, .ref F, .int 0, .int 0, .ref R] ∧ TilesAt C H S ts ∧ TupI H F f ∧ RowsIn H R rs ∧ Filled (fun t => t ∈ ts) f rs ∧ rs.length ≤ 60 ∧
  ∀ H', Same H H' → Q (.bl true) H'
theorem ok_isFilling {f : Addr} {fd : FuncData} (F : Fun K "is_filling" "is_filling" sIsFilling f fd) (T : TilesTxt K C) (B : Bi mg) (cN : C8.Cal P w K mg base 1 "next_floor" spNextFloor []) : FnOk P w K mg base CX0 2 f fd ["tiles", "floor", "left", "right", "rows"] (spIsFilling C) := by
  refine F.ok scIsFilling (fun vs H Q E h => ?_) (fun cdv A outer s H vs Q E hr h => ?_)
  · obtain ⟨S, F, R, ts, f, rs, rfl, _⟩ := h
    rfl
  · obtain ⟨S, F, R, ts, f, rs, rfl, hS, hF, ⟨ps, hR, lenp, rows⟩, fil, lenr, q⟩ := h
    refine ⟨_, pss_cons (ps_if (pt_not (pt_val (pe_callB call_isi (by rfl) B.isinstance boot_isinstance (pa_cons (pv 4) (pa_cons (pe_bltn (v := .ty "list") (by rfl) B.list boot_list rfl) pa_nil))))) (pss_one ps_never) pss_nil)
      (pss_cons (ps_for PassesOwn.never rfl (pi_list (pv 4)) (pg_name (i := 5) scIsFilling.nd rfl (Or.inl rfl))
        (pss_cons (ps_if (PW.pt (pw_or (pt_not (pt_val (pe_callB call_isi (by rfl) B.isinstance boot_isinstance (pa_cons (pv 5) (pa_cons (pe_bltn (v := .ty "tuple") (by rfl) B.tuple boot_tuple rfl) pa_nil)))))
          (pw_or1 (pt_cmpR op_ne (pe_callB call_len_seq (by rfl) B.len PySem.boot_len (pa_cons (pv 5) pa_nil)) (pe_callB call_len_seq (by rfl) B.len PySem.boot_len (pa_cons (pv 1) pa_nil)) (nomark _))))) (pss_one ps_never) pss_nil)
        (pss_cons (ps_if (pt_not (pt_val (pe_callB (cr_all rfl) (by rfl) B.all boot_all (pa_cons (pe_lc (own := [("tile", 6)]) (g := gName 6) (by rfl) scIsFilling.nd (pi_tup (pv 5))
          (blkOk_by (N := ["tiles", "floor", "left", "right", "rows", "row", "tile", "west", "south"]) (sc := defScope sIsFilling) (by decide +kernel)) (fun _ _ _ _ _ => pg_name (i := 6) scIsFilling.nd rfl (Or.inl rfl)) (fun _ _ _ _ _ => pts_nil)
          (fun _ _ _ _ _ => pe_cmpR (op_inTK K (room65 hr)) (pv 6) (pe_fldK K (pv 0) rfl) (by rfl))) pa_nil)))) (pss_one ps_never) pss_nil)
        (pss_cons (ps_set (i := 7) scIsFilling.nd rfl (Or.inl rfl) (pv 2))
        (pss_cons (ps_for PassesOwn.never rfl (RZ.pi_zipA (by rfl) B.zip (pa_cons (pv 5) (pa_cons (pv 1) pa_nil))) (pg_tup (by rfl) (pgs_cons (pg_name (i := 6) scIsFilling.nd rfl (Or.inl rfl)) (pgs_cons (pg_name (i := 8) scIsFilling.nd rfl (Or.inl rfl)) pgs_nil)))
          (pss_cons (ps_if (PW.pt (pw_or (pt_cmpR op_ne (pe_ix (ix_tupK K) (pv 6) pe_int (fun _ _ => rfl)) (pv 7) (nomark _)) (pw_or1 (pt_cmpR op_ne (pe_ix (ix_tupK K) (pv 6) pe_int (fun _ _ => rfl)) (pv 8) (nomark _))))) (pss_one ps_never) pss_nil)
          (pss_one (ps_set (i := 7) scIsFilling.nd rfl (Or.inl rfl) (pe_ix (ix_tupK K) (pv 6) pe_int (fun _ _ => rfl))))))
        (pss_cons (ps_if (pt_cmpR op_ne (pv 7) (pv 3) (nomark _)) (pss_one ps_never) pss_nil)
        (pss_one (ps_set (i := 1) scIsFilling.nd rfl (Or.inl rfl) (C8.pe_c cN hr (by decide) (by rfl) (pa_cons (pv 5) pa_nil))))))))))
      (pss_one (ps_ret pe_bl))), ?_⟩
    refine ⟨_, rfl, _, _, _, _, true, rfl, .ty _, .base (.lst hR), kit_ty (by decide +kernel), _, rfl, iteF ?_⟩
    refine ⟨_, rfl, R, rfl, ⟨_, sqL hR⟩, ?_⟩
    refine for_list (K := K) (a := R) (xs := ps.map V.ref) (fun i σ H1 => Same H H1 ∧ ∃ (Fi : Addr) (y5 y6 y7 y8 : Option V), σ = [some (.ref S), some (.ref Fi), some (.int 0), some (.int 0), some (.ref R), y5, y6, y7, y8] ∧ TupI H1 Fi (floorAt f rs i))
      ⟨Same.refl H, F, none, none, none, none, rfl, hF⟩ (fun i σ H1 _ h1 => sqL (h1.1 _ _ hR)) ?_ ?_
    · rintro i x σ H1 hx ⟨s1, Fi, y5, y6, y7, y8, rfl, hFi⟩
      obtain ⟨p, hp, rfl⟩ := addr_get hx
      have li : i < rs.length := by
        rw [← lenp]
        exact (List.getElem?_eq_some_iff.mp hp).1
      have hri : rs[i]? = some rs[i] := List.getElem?_eq_getElem li
      generalize rs[i] = r at hri
      obtain ⟨l60, isr⟩ := _root_.K23.filled_at fil hri
      generalize hfi : floorAt f rs i = fi at hFi l60 isr
      have lenr1 := isr.length
      obtain ⟨bs, ebs, hpb, sb⟩ := (rows i p r hp hri).mono s1
      have lenb : bs.length = fi.length := by
        rw [← lenr1, ← ebs, List.length_map]
      have hbr : (refs bs).length = bs.length := List.length_map _
      -- if not isinstance(row, tuple) or len(row) != len(floor)
      refine ⟨_, rfl, _, _, _, _, true, rfl, .ty _, .base (.tup hpb), kit_ty (by decide +kernel), _, rfl, iteF ?_⟩
      refine ⟨_, rfl, p, _, rfl, .inr (sqT hpb), _, rfl, Fi, _, rfl, .inr hFi.sq, rfl, _, rfl, ?_⟩
      refine iteNS (by rw [hbr, List.length_map, lenb]) ?_
      -- if not all([tile in tiles.tiles for tile in row])
      obtain ⟨dx, tt, d, as, kvs, hS1, hT1, st1, pm, _⟩ := hS.mono s1
      refine ⟨_, rfl, p, rfl, ⟨_, sqT hpb⟩, fun D nD => ?_⟩
      refine lc_tup_map (ys := (List.replicate bs.length true).map V.bl) (sqT hpb) nD (by simp) (by simp; omega) (fun j x y H2 Rr hxj hyj s2 hRr => ?_) ?_
      · obtain ⟨z, hz, rfl, hm⟩ := refs_get hxj
        have ey : y = .bl true := by
          rw [List.getElem?_map] at hyj
          cases e : (List.replicate bs.length true)[j]? with
          | none =>
            rw [e] at hyj
            cases hyj
          | some b =>
            rw [e] at hyj
            have hb := List.mem_of_getElem? e
            rw [List.mem_replicate] at hb
            rw [hb.2] at hyj
            exact (Option.some.inj hyj).symm
        subst ey
        refine ⟨rfl, _, rfl, _, rfl, S, C, dx, _, _, rfl, s2 _ _ hS1, T.cl, T.nT, by rfl, tileD z.2, (as.map (·.2)).map tileD, tile_dp (s2 _ _ (sb z hm)), row_dp (s2 _ _ hT1) (st1.mono s2), tile_shaped _, row_shaped _, ?_⟩
        have hzt : z.2 ∈ as.map (·.2) := by
          refine pm.mem_iff.mpr ?_
          have hzr : r[j]? = some z.2 := by
            rw [← ebs, List.getElem?_map, hz]
            rfl
          obtain ⟨_, _, _, _, hL⟩ := _root_.K23.row_at isr hzr
          exact hL
        have ea : (if false = true then !(((as.map (·.2)).map tileD).any fun z' => PyData.eqv z' (tileD z.2)) else (((as.map (·.2)).map tileD).any fun z' => PyData.eqv z' (tileD z.2))) = true := by
          rw [if_neg Bool.false_ne_true]
          exact any_tile hzt
        rw [ea]
        exact hRr
      have s2 : Same H1 (upd H1 D (.lst ((List.replicate bs.length true).map V.bl))) := same_upd nD
      have al : (List.replicate bs.length true).all id = true := by simp
      refine ⟨D, _, rfl, sqL upd_same, _, rfl, ?_⟩
      rw [al]
      refine iteF ?_
      have hp2 := s2 _ _ hpb
      have hF2 : TupI _ Fi fi := s2 _ _ hFi
      have sb2 := sb.mono s2
      generalize upd H1 D (.lst ((List.replicate bs.length true).map V.bl)) = H2 at s2 hp2 hF2 sb2
      -- west = left; for tile, south in zip(row, floor)
      refine ⟨_, rfl, _, rfl, _, rfl, p, Fi, refs bs, fi.map V.int, rfl, .inr ⟨sqT hp2, hF2.sq, ?_⟩⟩
      refine RZ.for_zipT (K := K) (a := p) (b := Fi) (xs := refs bs) (ys := fi.map V.int) (by rw [hbr, List.length_map, lenb]) (fun j σ H3 => Same H2 H3 ∧ ∃ y6 y8, σ = [some (.ref S), some (.ref Fi), some (.int 0), some (.int 0), some (.ref R), some (.ref p), y6, some (.int (west 0 (r.take j))), y8])
        ⟨Same.refl H2, y6, y8, rfl⟩ (fun j σ H3 h3 => ⟨sqT (h3.1 _ _ hp2), sqT (h3.1 _ _ hF2)⟩) ?_ ?_
      · rintro j x y tp σ H3 hxj hyj ⟨s3, y6, y8, rfl⟩ ntp
        obtain ⟨z, hz, rfl, hm⟩ := refs_get hxj
        obtain ⟨south, hs, rfl⟩ := ints_get hyj
        have hzr : r[j]? = some z.2 := by
          rw [← ebs, List.getElem?_map, hz]
          rfl
        obtain ⟨s0, es0, ets, etw, _⟩ := _root_.K23.row_at isr hzr
        rw [hs] at es0
        cases es0
        have s4 : Same H3 (upd H3 tp (.tup [.ref z.1, .int south])) := same_upd ntp
        have hz4 := s4 _ _ (s3 _ _ (sb2 z hm))
        refine ⟨tp, [.ref z.1, .int south], rfl, sqT upd_same, rfl, _, [_], rfl, _, [], rfl, rfl, ?_⟩
        refine ⟨_, rfl, z.1, _, 2, _, rfl, rfl, sqT hz4, atI_nat (j := 2) rfl, _, rfl, rfl, _, rfl, ?_⟩
        refine iteNS (by rw [etw]) ?_
        refine ⟨_, rfl, z.1, _, 3, _, rfl, rfl, sqT hz4, atI_nat (j := 3) rfl, _, rfl, rfl, _, rfl, ?_⟩
        refine iteNS (by rw [ets]) ?_
        refine ⟨_, rfl, z.1, _, 0, _, rfl, rfl, sqT hz4, atI_nat (j := 0) rfl, s3.trans s4, some (.ref z.1), some (.int south), ?_⟩
        rw [_root_.K23.west_take hzr]
        rfl
      · rintro σ H3 ⟨s3, y6, y8, rfl⟩
        rw [hbr]
        have e1 : r.take bs.length = r := List.take_of_length_le (by omega)
        rw [e1, _root_.K23.row_end isr]
        -- if west != right
        refine ⟨_, rfl, _, rfl, rfl, _, rfl, iteNS rfl ?_⟩
        -- floor = next_floor(row)
        refine ⟨_, rfl, p, r, rfl, ⟨bs, ebs, s3 _ _ hp2, sb2.mono s3⟩, by omega, fun H4 N s4 nN hN => ⟨s1.trans (s2.trans (s3.trans s4)), N, _, _, _, _, rfl, ?_⟩⟩
        rw [_root_.K23.floorAt_succ hri]
        exact hN
    · rintro σ H1 ⟨s1, _⟩
      exact q H1 s1
end
end L2.K23
set_option Elab.async false
set_option linter.all false
set_option maxRecDepth 100000
set_option maxHeartbeats 4000000
/-! line_of, down, floor, meaning, up, read_off. -/
namespace L2.K23
open PySem PySem.Spec PyProof.Rows
open _root_.K23 (T4 Mach Cfg Plain Trimmed trim strip)
/-! ### configurations in the heap -/
def CfgAt (H : Hp) (p : Addr) (c : Cfg) : Prop := ∃ l r : Addr, H p = some (.tup [.int c.q, .ref l, .int c.a, .ref r]) ∧ TupI H l c.l ∧ TupI H r c.r
theorem CfgAt.mono {H H' : Hp} {p : Addr} {c : Cfg} (h : CfgAt H p c) (s : Same H H') : CfgAt H' p c := by
  obtain ⟨l, r, h1, h2, h3⟩ := h
  exact ⟨l, r, s _ _ h1, s _ _ h2, s _ _ h3⟩
/-- the line of a configuration -/
def lineOf (m : Int) (c : Cfg) : List Int := c.l.reverse ++ (m * (c.q + 1) + c.a) :: c.r
theorem lineOf_len (m : Int) (c : Cfg) : (lineOf m c).length = c.l.length + 1 + c.r.length := by
  unfold lineOf
  simp
  omega
/-! ### sums and products of tuples -/
theorem cat_tup {K : PySem.W.Frag} {H : Hp} {a b : Addr} {xs ys : List V} {Q : VK} (ha : H a = some (.tup xs)) (hb : H b = some (.tup ys)) (len : xs.length + ys.length ≤ 100000)
    (q : ∀ H' z, Same H H' → H' z = some (.tup (xs ++ ys)) → Q (.ref z) H') : rCatA K (.ref a) (.ref b) H Q := by
  refine ⟨a, b, xs, ys, rfl, rfl, sqT ha, sqT hb, le_line len, fun e => q H b (Same.refl H) ?_, fun _ e => q H a (Same.refl H) ?_, fun _ _ p np => q _ p (same_upd np) upd_same⟩
  · rw [e]
    exact hb
  · rw [e, List.append_nil]
    exact ha
theorem rep_tup {K : PySem.W.Frag} {H : Hp} {l : Addr} {k : Nat} {z : V} {Q : VK} (hl : H l = some (.tup [z])) (hk : k ≤ 1000) (q : ∀ H' t, Same H H' → H' t = some (.tup (List.replicate k z)) → Q (.ref t) H') : rRepZ K (.ref l) (.int (k : Int)) H Q := by
  refine ⟨l, k, z, rfl, rfl, hl, hk, fun e => q H l (Same.refl H) ?_, fun _ p np => q _ p (same_upd np) upd_same⟩
  rw [e]
  exact hl
section
variable {P : Program} {w : World} {K : PySem.W.Frag} {mg : Str → Option Value} {base : Heap} {C CT CS CL : Addr}
/-! ### line_of -/
theorem scLineOf : FnScope ["marks", "configuration", "state", "left", "mark", "right"] ["marks", "configuration"] (defScope sLineOf) := ⟨rfl, rfl, rfl, by decide +kernel, rfl, by decide +kernel, by decide +kernel⟩
def spLineOf : Sp := fun vs H Q _ => ∃ (m : Int) (p : Addr) (c : Cfg), vs = [.int m, .ref p] ∧ CfgAt H p c ∧ 2 ≤ m ∧ m ≤ 5 ∧ c.l.length ≤ 100 ∧ c.r.length ≤ 100 ∧ ∀ H' z, Same H H' → TupI H' z (strip (lineOf m c)) → Q (.ref z) H'
theorem ok_lineOf {f : Addr} {fd : FuncData} (F : Fun K "line_of" "line_of" sLineOf f fd) (cW : C8.Cal P w K mg base 1 "without_ends" spWithoutEnds []) (cL : C8.Cal P w K mg base 1 "letter_of" spLetterOf []) : FnOk P w K mg base CX0 2 f fd ["marks", "configuration"] spLineOf := by
  refine F.ok scLineOf (fun vs H Q E h => ?_) (fun cdv A outer s H vs Q E hr h => ?_)
  · obtain ⟨m, p, c, rfl, _⟩ := h
    rfl
  · obtain ⟨m, p, c, rfl, ⟨l, r, hp, hl, hr0⟩, m2, m5, ll, lr, q⟩ := h
    refine ⟨_, pss_cons (ps_asg (pv 1) (pg_tup (by rfl) (pgs_cons (pg_name (i := 2) scLineOf.nd rfl (Or.inl rfl)) (pgs_cons (pg_name (i := 3) scLineOf.nd rfl (Or.inl rfl)) (pgs_cons (pg_name (i := 4) scLineOf.nd rfl (Or.inl rfl)) (pgs_cons (pg_name (i := 5) scLineOf.nd rfl (Or.inl rfl)) pgs_nil))))))
      (pss_one (ps_ret (C8.pe_c cW hr (by decide) (by rfl) (pa_cons (pe_op op_catA (pe_op op_catA (pe_revT (pv 3)) (pe_tup (pa_cons (C8.pe_c cL hr (by decide) (by rfl) (pa_cons (pv 0) (pa_cons (pv 4) (pa_cons (pv 2) pa_nil)))) pa_nil))) (pv 5)) pa_nil)))), ?_⟩
    refine ⟨_, rfl, p, [.int c.q, .ref l, .int c.a, .ref r], rfl, sqT hp, rfl, _, [_, _, _], rfl, _, [_, _], rfl, _, [_], rfl, _, [], rfl, rfl, ?_⟩
    refine ⟨_, rfl, l, _, rfl, hl.sq, fun v nv => ?_⟩
    refine ⟨_, rfl, _, rfl, _, rfl, m, c.a, c.q, rfl, m2, m5, le_line (show 1 ≤ 100000 by decide), fun t nt => ?_⟩
    have s1 := same_upd (o := .tup (c.l.map V.int).reverse) nv
    have s2 := same_upd (o := .tup [.int (m * (c.q + 1) + c.a)]) nt
    refine cat_tup (s2 _ _ upd_same) upd_same (by simp; omega) fun H3 z3 s3 h3 => ?_
    have s03 := (s1.trans s2).trans s3
    refine ⟨_, rfl, cat_tup h3 (s03 _ _ hr0) (by simp; omega) fun H4 z4 s4 h4 => ?_⟩
    have e : (c.l.map V.int).reverse ++ [.int (m * (c.q + 1) + c.a)] ++ c.r.map V.int = (lineOf m c).map V.int := by
      unfold lineOf
      rw [List.map_append, List.map_cons, List.map_reverse, List.append_assoc]
      rfl
    rw [e] at h4
    exact ⟨z4, _, rfl, h4, by rw [lineOf_len]; omega, fun H5 z5 s5 h5 => q H5 z5 ((s03.trans s4).trans s5) h5⟩
/-! ### down, floor -/
theorem scDown : FnScope ["self", "configuration"] ["self", "configuration"] (defScope sDown) := ⟨rfl, rfl, rfl, by decide +kernel, rfl, by decide +kernel, by decide +kernel⟩
def spDown (C CT CS CL : Addr) : Sp := fun vs H Q _ => ∃ (S T p : Addr) (m st : Int) (rs : List Row3) (c : Cfg), vs = [.ref S, .ref p] ∧ StairAt C CT CS CL H S T m st rs ∧ CfgAt H p c ∧ 2 ≤ m ∧ m ≤ 5 ∧ c.l.length ≤ 100 ∧ c.r.length ≤ 100 ∧
  ∀ H' z, Same H H' → TupI H' z (strip (lineOf m c)) → Q (.ref z) H'
theorem ok_down {f : Addr} {fd : FuncData} (F : Fun K "down" "TileStair.down" sDown f fd) (T : StairTxt K C) (TT : TapeTxt K CT) (cO : C8.Cal P w K mg base 2 "line_of" spLineOf []) : FnOk P w K mg base CX0 3 f fd ["self", "configuration"] (spDown C CT CS CL) := by
  refine F.ok scDown (fun vs H Q E h => ?_) (fun cdv A outer s H vs Q E hr h => ?_)
  · obtain ⟨S, t, p, m, st, rs, c, rfl, _⟩ := h
    rfl
  · obtain ⟨S, t, p, m, st, rs, c, rfl, ⟨dx, B, dxb, L, h1, h2, h3, ⟨dxt, l, xs, h4, _⟩⟩, hc, m2, m5, ll, lr, q⟩ := h
    refine ⟨_, pss_one (ps_ret (C8.pe_c cO hr (by decide) (by rfl) (pa_cons (pe_fld (pe_fld (pv 0) rfl) rfl) (pa_cons (pv 1) pa_nil)))), ?_⟩
    exact ⟨_, rfl, S, C, dx, _, _, rfl, h1, T.cl, T.nU, by rfl, t, CT, dxt, _, _, rfl, h4, TT.cl, TT.nM, by rfl, _, rfl, m, p, c, rfl, hc, m2, m5, ll, lr, q⟩
theorem scFloor : FnScope ["self", "configuration", "margin"] ["self", "configuration", "margin"] (defScope sFloor) := ⟨rfl, rfl, rfl, by decide +kernel, rfl, by decide +kernel, by decide +kernel⟩
def spFloor (C CT CS CL : Addr) : Sp := fun vs H Q _ => ∃ (S T p : Addr) (m st : Int) (rs : List Row3) (c : Cfg) (k : Nat), vs = [.ref S, .ref p, .int (k : Int)] ∧ StairAt C CT CS CL H S T m st rs ∧ CfgAt H p c ∧ 2 ≤ m ∧ m ≤ 5 ∧ c.l.length ≤ 100 ∧ c.r.length ≤ 100 ∧ k ≤ 1000 ∧
  (strip (lineOf m c)).length ≤ 1000 ∧ ∀ H' z, Same H H' → TupI H' z (List.replicate k 0 ++ strip (lineOf m c) ++ List.replicate k 0) → Q (.ref z) H'
theorem ok_floor {f : Addr} {fd : FuncData} (F : Fun K "floor" "TileStair.floor" sFloor f fd) (cD : C8.Met P w K mg base 3 C "down" (spDown C CT CS CL) []) : FnOk P w K mg base CX0 4 f fd ["self", "configuration", "margin"] (spFloor C CT CS CL) := by
  refine F.ok scFloor (fun vs H Q E h => ?_) (fun cdv A outer s H vs Q E hr h => ?_)
  · obtain ⟨S, t, p, m, st, rs, c, k, rfl, _⟩ := h
    rfl
  · obtain ⟨S, t, p, m, st, rs, c, k, rfl, hS, hc, m2, m5, ll, lr, hk, ls, q⟩ := h
    refine ⟨_, pss_one (ps_ret (pe_op op_catA (pe_op op_catA (pe_op op_repZ (pe_tup (pa_cons pe_int pa_nil)) (pv 2)) (C8.pe_mt cD hr (by decide) (pv 0) (pa_cons (pv 1) pa_nil))) (pe_op op_repZ (pe_tup (pa_cons pe_int pa_nil)) (pv 2)))), ?_⟩
    refine ⟨le_line (show 1 ≤ 100000 by decide), fun p1 n1 => ⟨_, rfl, rep_tup upd_same hk fun H2 z2 s2 h2 => ?_⟩⟩
    have s02 := (same_upd n1).trans s2
    have hS2 := hS.mono s02
    obtain ⟨dx, B, dxb, L, h3, _⟩ := id hS2
    refine ⟨_, rfl, S, dx, _, rfl, h3, by rfl, _, rfl, S, t, p, m, st, rs, c, rfl, hS2, hc.mono s02, m2, m5, ll, lr, fun H3 z3 s3 h4 => ?_⟩
    refine cat_tup (s3 _ _ h2) h4 (by simp; omega) fun H4 z4 s4 h5 => ?_
    refine ⟨le_line (show 1 ≤ 100000 by decide), fun p5 n5 => ⟨_, rfl, rep_tup upd_same hk fun H6 z6 s6 h6 => ?_⟩⟩
    have s46 := (same_upd n5).trans s6
    refine cat_tup (s46 _ _ h5) h6 (by simp; omega) fun H7 z7 s7 h7 => ?_
    refine q H7 z7 ((((s02.trans s3).trans s4).trans s46).trans s7) ?_
    have e : (List.replicate k (0 : Int) ++ strip (lineOf m c) ++ List.replicate k 0).map V.int = List.replicate k (.int 0) ++ (strip (lineOf m c)).map V.int ++ List.replicate k (.int 0) := by
      rw [List.map_append, List.map_append, List.map_replicate]
    show H7 z7 = some (.tup _)
    rw [e]
    exact h7
/-! ### meaning -/
theorem scMeaning : FnScope ["machine", "line", "marks", "at", "heads", "state"] ["machine", "line"] (defScope sMeaning) := ⟨rfl, rfl, rfl, by decide +kernel, rfl, by decide +kernel, by decide +kernel⟩
def spMeaning (CT : Addr) : Sp := fun vs H Q _ => ∃ (T L : Addr) (m st : Int) (rs : List Row3) (c : Cfg), vs = [.ref T, .ref L] ∧ TapeAt CT H T m st rs ∧ 2 ≤ m ∧ m ≤ 5 ∧ 1 ≤ st ∧ st ≤ 4 ∧ c.Ok (mach m st rs) ∧ c.l.length ≤ 100 ∧ c.r.length ≤ 100 ∧ TupI H L (lineOf m c) ∧
  ∀ H' z, Same H H' → CfgAt H' z c → Q (.ref z) H'
theorem ok_meaning {f : Addr} {fd : FuncData} (F : Fun K "meaning" "meaning" sMeaning f fd) (TT : TapeTxt K CT) (B : Bi mg) (cT : C8.Cal P w K mg base 1 "trimmed" spTrimmed []) : FnOk P w K mg base CX0 2 f fd ["machine", "line"] (spMeaning CT) := by
  refine F.ok scMeaning (fun vs H Q E h => ?_) (fun cdv A outer s H vs Q E hr h => ?_)
  · obtain ⟨t, L, m, st, rs, c, rfl, _⟩ := h
    rfl
  · obtain ⟨t, L, m, st, rs, c, rfl, hT, m2, m5, s1', s4', ok, ll, lr, hL, q⟩ := h
    obtain ⟨dxt, l, xs, h4, _⟩ := id hT
    have lenL := lineOf_len m c
    refine ⟨_, pss_cons (ps_set (i := 2) scMeaning.nd rfl (Or.inr rfl) (pe_fld (pv 0) rfl))
      (pss_cons (ps_setLc (i := 4) (own := [("at", 3)]) (g := gName 3) (by rfl) scMeaning.nd rfl rfl (sw_true rfl rfl rfl (by decide +kernel)) (pi_range1 (by rfl) B.range (pa_cons (pe_callB call_len_seq (by rfl) B.len PySem.boot_len (pa_cons (pv 1) pa_nil)) pa_nil))
        (blkOk_by (N := ["machine", "line", "marks", "at", "heads", "state"]) (sc := defScope sMeaning) (by decide +kernel)) (fun _ _ _ _ _ => pg_name (i := 3) scMeaning.nd rfl (Or.inl rfl))
        (fun _ _ _ _ _ => pts_one (pt_cmpR op_ge (pe_ix (ix_tupK K) (pv 1) (pv 3) (fun _ _ => rfl)) (pv 2) (nomark _))) (fun _ _ _ _ _ => pv 3))
      (pss_cons (ps_if (PW.pt (pw_or (pt_cmpR op_ne (pe_callB call_len_seq (by rfl) B.len PySem.boot_len (pa_cons (pv 4) pa_nil)) pe_int (nomark _))
        (pw_or1 (pt_cmpR op_ge (pe_ix (ix_tupK K) (pv 1) (pe_ix (ix_listK K) (pv 4) pe_int (fun _ _ => rfl)) (fun _ _ => rfl)) (pe_op op_mul (pv 2) (pe_op op_add (pe_fld (pv 0) rfl) pe_int)) (nomark _))))) (pss_one ps_never) pss_nil)
      (pss_cons (ps_set (i := 3) scMeaning.nd rfl (Or.inl rfl) (pe_ix (ix_listK K) (pv 4) pe_int (fun _ _ => rfl)))
      (pss_cons (ps_set (i := 5) scMeaning.nd rfl (Or.inl rfl) (pe_op op_sub (pe_op op_fdivN (pe_ix (ix_tupK K) (pv 1) (pv 3) (fun _ _ => rfl)) (pv 2)) pe_int))
      (pss_one (ps_ret (pe_tup (pa_cons (pv 5) (pa_cons (C8.pe_c cT hr (by decide) (by rfl) (pa_cons (pe_revT (pe_slice sl_tupA (pv 1) po_none (po_some (pv 3)))) pa_nil))
        (pa_cons (pe_op op_modN (pe_ix (ix_tupK K) (pv 1) (pv 3) (fun _ _ => rfl)) (pv 2)) (pa_cons (C8.pe_c cT hr (by decide) (by rfl) (pa_cons (pe_slice sl_tupA (pv 1) (po_some (pe_op op_add (pv 3) pe_int)) po_none) pa_nil)) pa_nil))))))))))), ?_⟩
    -- the letters of the line
    have hlet : m ≤ m * (c.q + 1) + c.a ∧ m * (c.q + 1) + c.a < m * (st + 1) := by
      have h1 : m * 1 ≤ m * (c.q + 1) := Int.mul_le_mul_of_nonneg_left (by have := ok.q0; omega) (by omega)
      have h2 : m * (c.q + 1) ≤ m * st := Int.mul_le_mul_of_nonneg_left (by have : c.q < st := ok.q1; omega) (by omega)
      have h3 : m * (st + 1) = m * st + m := by rw [Int.mul_add, Int.mul_one]
      have h4 := ok.a0
      have h5 : c.a < m := ok.a1
      omega
    generalize hlt : m * (c.q + 1) + c.a = letter at hlet
    have eline : lineOf m c = c.l.reverse ++ letter :: c.r := by
      unfold lineOf
      rw [hlt]
    have atN : (lineOf m c)[c.l.length]? = some letter := by
      rw [eline, List.getElem?_append_right (by rw [List.length_reverse]; exact Nat.le_refl _), List.length_reverse, Nat.sub_self]
      rfl
    have atO : ∀ {j : Nat} {z : Int}, (lineOf m c)[j]? = some z → j ≠ c.l.length → z < m := fun {j z} hz ne => by
      rw [eline] at hz
      by_cases lt : j < c.l.length
      · rw [List.getElem?_append_left (by rw [List.length_reverse]; exact lt)] at hz
        have : z ∈ c.l := List.mem_reverse.mp (List.mem_of_getElem? hz)
        exact (ok.pl z this).2
      · rw [List.getElem?_append_right (by rw [List.length_reverse]; omega), List.length_reverse] at hz
        obtain ⟨j', hj'⟩ : ∃ j', j - c.l.length = j' + 1 := ⟨j - c.l.length - 1, by omega⟩
        rw [hj', List.getElem?_cons_succ] at hz
        exact (ok.pr z (List.mem_of_getElem? hz)).2
    refine ⟨_, rfl, t, CT, dxt, _, _, rfl, h4, TT.cl, TT.nM, by rfl, ?_⟩
    -- heads = [..]
    refine ⟨_, rfl, L, _, rfl, .inr hL.sq, (lineOf m c).length, ?_, by omega, by omega, fun D nD => ?_⟩
    · rw [List.length_map]
    have sD : ∀ o, Same H (upd H D o) := fun o => same_upd nD
    refine lc_range (lo := 0) (n := (lineOf m c).length) (fun j H2 => H2 = upd H D (.lst (if c.l.length < j then [.int (c.l.length : Int)] else []))) rfl (fun j H2 hj e => ?_) (fun H2 e => ?_)
    · subst e
      have hz : (lineOf m c)[j]? = some (lineOf m c)[j] := List.getElem?_eq_getElem hj
      have e0 : (0 : Int) + (j : Int) = (j : Int) := by omega
      rw [e0]
      refine ⟨rfl, ?_⟩
      refine ⟨_, rfl, _, rfl, L, _, _, .int (lineOf m c)[j], rfl, rfl, sqT (sD _ _ _ hL), ints_at hz, _, rfl, _, _, rfl, rfl, _, rfl, ?_⟩
      by_cases ej : j = c.l.length
      · have ez : (lineOf m c)[j] = letter := by
          have h1 := atN
          rw [← ej, hz] at h1
          exact Option.some.inj h1
        have e3 : (if c.l.length < j then [V.int (c.l.length : Int)] else []) = [] := if_neg (by omega)
        have e4 : (if c.l.length < j + 1 then [V.int (c.l.length : Int)] else []) = [V.int (c.l.length : Int)] := if_pos (by omega)
        rw [ez, decide_eq_true hlet.1, e3]
        refine iteT ⟨_, rfl, [], upd_same, by decide, ?_⟩
        rw [upd_upd, e4, ej]
        rfl
      · rw [decide_eq_false (by have := atO hz ej; omega)]
        refine iteF ?_
        have : (c.l.length < j) = (c.l.length < j + 1) := propext ⟨fun _ => by omega, fun _ => by omega⟩
        simp only [this]
    · subst e
      rw [if_pos (by omega)]
      have hL2 := sD (.lst [.int (c.l.length : Int)]) _ _ hL
      have hT2 := sD (.lst [.int (c.l.length : Int)]) _ _ h4
      have hD2 : upd H D (.lst [.int (c.l.length : Int)]) D = some (.lst [.int (c.l.length : Int)]) := upd_same
      have s2 := sD (.lst [.int (c.l.length : Int)])
      generalize upd H D (.lst [.int (c.l.length : Int)]) = H2 at hL2 hT2 hD2 s2
      -- if len(heads) != 1 or ..
      refine ⟨_, rfl, D, _, rfl, .inl (sqL hD2), rfl, _, rfl, ?_⟩
      refine iteF ?_
      refine ⟨_, rfl, _, rfl, D, _, 0, _, rfl, rfl, sqL hD2, atI_nat (j := 0) rfl, L, _, _, .int letter, rfl, rfl, sqT hL2, ints_at atN, _, rfl, _, rfl, t, CT, dxt, _, _, rfl, hT2, TT.cl, TT.nS, by rfl, _, _, rfl, rfl, _, _, rfl, rfl, .inl ⟨by omega, by omega⟩, _, _, rfl, rfl, _, rfl, ?_⟩
      rw [decide_eq_false (by omega)]
      refine iteF ?_
      -- at = heads[0]
      refine ⟨_, rfl, D, _, 0, _, rfl, rfl, sqL hD2, atI_nat (j := 0) rfl, ?_⟩
      -- state = line[at] // marks - 1
      refine ⟨_, rfl, _, rfl, L, _, _, .int letter, rfl, rfl, sqT hL2, ints_at atN, _, rfl, _, _, rfl, rfl, ⟨by omega, by omega⟩, _, _, rfl, rfl, ?_⟩
      have ediv : letter.fdiv m = c.q + 1 := by
        rw [Int.fdiv_eq_ediv_of_nonneg _ (by omega), ← hlt, Int.add_comm, Int.add_mul_ediv_left _ _ (by omega), Int.ediv_eq_zero_of_lt ok.a0 (show c.a < m from ok.a1)]
        omega
      have emod : letter.fmod m = c.a := by
        rw [Int.fmod_eq_emod_of_nonneg _ (by omega), ← hlt, Int.add_comm, Int.add_mul_emod_self_left]
        exact Int.emod_eq_of_lt ok.a0 ok.a1
      rw [ediv]
      have e1 : c.q + 1 - 1 = c.q := by omega
      -- the tuple
      refine ⟨_, rfl, _, rfl, _, rfl, _, rfl, slice_tup hL2 fun H3 z3 s3 h3 => ?_⟩
      have cutL : cutV ((lineOf m c).map V.int) none (some (c.l.length : Int)) = c.l.reverse.map V.int := by
        rw [cut_take _ (by rw [List.length_map]; omega), ← List.map_take, eline, List.take_left' (by rw [List.length_reverse])]
      rw [cutL] at h3
      refine ⟨z3, _, rfl, sqT h3, fun z4 n4 => ?_⟩
      have h4' : TupI (upd H3 z4 (.tup (c.l.reverse.map V.int).reverse)) z4 c.l := by
        show upd _ _ _ _ = _
        rw [upd_same, ← List.map_reverse, List.reverse_reverse]
      have s34 := same_upd (o := .tup (c.l.reverse.map V.int).reverse) n4
      refine ⟨z4, c.l, rfl, h4', by omega, fun H5 z5 s5 h5 => ?_⟩
      have s25 := (s3.trans s34).trans s5
      rw [show trim c.l = c.l from ok.tl] at h5
      refine ⟨_, rfl, _, rfl, L, _, _, .int letter, rfl, rfl, sqT (s25 _ _ hL2), ints_at atN, _, rfl, _, _, rfl, rfl, by omega, ?_⟩
      refine ⟨_, rfl, _, rfl, _, _, rfl, rfl, _, rfl, ?_⟩
      unfold tNoPart
      refine slice_tup (s25 _ _ hL2) fun H6 z6 s6 h6 => ?_
      have cutR : cutV ((lineOf m c).map V.int) (some ((c.l.length : Int) + 1)) none = c.r.map V.int := by
        have e2 : (c.l.length : Int) + 1 = ((c.l.length + 1 : Nat) : Int) := by omega
        rw [e2, cut_drop _ (by rw [List.length_map]; omega), ← List.map_drop, eline]
        have e3 : c.l.reverse ++ letter :: c.r = (c.l.reverse ++ [letter]) ++ c.r := by simp
        rw [e3, List.drop_left' (by simp)]
      rw [cutR] at h6
      refine ⟨z6, c.r, rfl, h6, by omega, fun H7 z7 s7 h7 => ?_⟩
      rw [show trim c.r = c.r from ok.tr] at h7
      refine ⟨le_line (show 4 ≤ 100000 by decide), fun z8 n8 => ?_⟩
      have s8 := same_upd (o := .tup [.int (c.q + 1 - 1), .ref z5, .int (letter.fmod m), .ref z7]) n8
      exact q _ z8 ((((s2.trans s25).trans s6).trans s7).trans s8) ⟨z5, z7, (by rw [upd_same]; show some (HO.tup [.int (c.q + 1 - 1), .ref z5, .int (letter.fmod m), .ref z7]) = _; rw [e1, emod]), s8 _ _ (s7 _ _ (s6 _ _ h5)), s8 _ _ h7⟩
end
end L2.K23
set_option Elab.async false
set_option linter.all false
set_option maxRecDepth 100000
set_option maxHeartbeats 4000000
/-! up, read_off. -/
namespace L2.K23
open PySem PySem.Spec PyProof.Rows
open _root_.K23 (T4 Mach Cfg Plain Trimmed trim strip)
/-- configurations, in a list -/
def CfgsIn (H : Hp) (L : Addr) (cs : List Cfg) : Prop := ∃ ps : List Addr, H L = some (.lst (ps.map V.ref)) ∧ ps.length = cs.length ∧ ∀ (i : Nat) (p : Addr) (c : Cfg), ps[i]? = some p → cs[i]? = some c → CfgAt H p c
theorem CfgsIn.mono {H H' : Hp} {L : Addr} {cs : List Cfg} (h : CfgsIn H L cs) (s : Same H H') : CfgsIn H' L cs := by
  obtain ⟨ps, h1, h2, h3⟩ := h
  exact ⟨ps, s _ _ h1, h2, fun i p c e1 e2 => (h3 i p c e1 e2).mono s⟩
theorem CfgsIn.nil {H : Hp} {L : Addr} (h : H L = some (.lst [])) : CfgsIn H L [] := ⟨[], h, rfl, fun i p c e => by simp at e⟩
/-- one more at the end -/
theorem CfgsIn.snoc {H : Hp} {L p : Addr} {cs : List Cfg} {c : Cfg} {acc : List V} (h : CfgsIn H L cs) (hp : CfgAt H p c) (hacc : H L = some (.lst acc)) : CfgsIn (upd H L (.lst (acc ++ [.ref p]))) L (cs ++ [c]) ∧ acc.length = cs.length := by
  obtain ⟨ps, h1, h2, h3⟩ := h
  rw [hacc] at h1
  cases h1
  have k : ∀ {b xs u}, H b = some (.tup xs) → upd H L u b = some (.tup xs) := fun {b xs u} hb => by
    rw [upd_ne (ne_of hb hacc (by intro z; cases z))]
    exact hb
  have kc : ∀ {q d u}, CfgAt H q d → CfgAt (upd H L u) q d := fun {q d u} hq => by
    obtain ⟨l, r, g1, g2, g3⟩ := hq
    exact ⟨l, r, k g1, k g2, k g3⟩
  refine ⟨⟨ps ++ [p], by rw [upd_same, List.map_append]; rfl, by rw [List.length_append, List.length_append, h2]; rfl, fun i q d e1 e2 => ?_⟩, by rw [List.length_map, h2]⟩
  by_cases lt : i < ps.length
  · rw [List.getElem?_append_left lt] at e1
    rw [List.getElem?_append_left (by omega)] at e2
    exact kc (h3 i q d e1 e2)
  · rw [List.getElem?_append_right (by omega)] at e1
    rw [List.getElem?_append_right (by omega), ← h2] at e2
    by_cases e0 : i - ps.length = 0
    · rw [e0] at e1 e2
      cases e1
      cases e2
      exact kc hp
    · obtain ⟨j, hj⟩ : ∃ j, i - ps.length = j + 1 := ⟨i - ps.length - 1, by omega⟩
      rw [hj] at e1
      cases e1
section
variable {P : Program} {w : World} {K : PySem.W.Frag} {mg : Str → Option Value} {base : Heap} {C CT CS CL : Addr}
/-! ### up -/
theorem scUp : FnScope ["self", "configuration"] ["self", "configuration"] (defScope sUp) := ⟨rfl, rfl, rfl, by decide +kernel, rfl, by decide +kernel, by decide +kernel⟩
def spUp (C CT CS CL : Addr) : Sp := fun vs H Q _ => ∃ (S T L : Addr) (m st : Int) (rs : List Row3) (c : Cfg), vs = [.ref S, .ref L] ∧ StairAt C CT CS CL H S T m st rs ∧ 2 ≤ m ∧ m ≤ 5 ∧ 1 ≤ st ∧ st ≤ 4 ∧ c.Ok (mach m st rs) ∧ c.l.length ≤ 100 ∧ c.r.length ≤ 100 ∧ TupI H L (lineOf m c) ∧
  ∀ H' z, Same H H' → CfgAt H' z c → Q (.ref z) H'
theorem ok_up {f : Addr} {fd : FuncData} (F : Fun K "up" "TileStair.up" sUp f fd) (T : StairTxt K C) (cM : C8.Cal P w K mg base 2 "meaning" (spMeaning CT) []) : FnOk P w K mg base CX0 3 f fd ["self", "configuration"] (spUp C CT CS CL) := by
  refine F.ok scUp (fun vs H Q E h => ?_) (fun cdv A outer s H vs Q E hr h => ?_)
  · obtain ⟨S, t, L, m, st, rs, c, rfl, _⟩ := h
    rfl
  · obtain ⟨S, t, L, m, st, rs, c, rfl, ⟨dx, B, dxb, L2, h1, h2, h3, h4⟩, m2, m5, s1, s4, ok, ll, lr, hL, q⟩ := h
    refine ⟨_, pss_one (ps_ret (C8.pe_c cM hr (by decide) (by rfl) (pa_cons (pe_fld (pv 0) rfl) (pa_cons (pv 1) pa_nil)))), ?_⟩
    exact ⟨_, rfl, S, C, dx, _, _, rfl, h1, T.cl, T.nU, by rfl, _, rfl, t, L, m, st, rs, c, rfl, h4, m2, m5, s1, s4, ok, ll, lr, hL, q⟩
/-! ### read_off -/
theorem scReadOff : FnScope ["stair", "rows", "found", "row", "configuration"] ["stair", "rows"] (defScope sReadOff) := ⟨rfl, rfl, rfl, by decide +kernel, rfl, by decide +kernel, by decide +kernel⟩
def spReadOff (C CT CS CL : Addr) : Sp := fun vs H Q _ => ∃ (S T R : Addr) (m st : Int) (rs : List Row3) (rows : List (List T4)) (cs : List Cfg), vs = [.ref S, .ref R] ∧ StairAt C CT CS CL H S T m st rs ∧ 2 ≤ m ∧ m ≤ 5 ∧ 1 ≤ st ∧ st ≤ 4 ∧ RowsIn H R rows ∧ rows.length ≤ 60 ∧ cs.length = rows.length ∧
  (∀ (i : Nat) (r : List T4) (c : Cfg), rows[i]? = some r → cs[i]? = some c → r.length ≤ 60 ∧ strip (r.map T4.n) = lineOf m c ∧ c.Ok (mach m st rs) ∧ c.l.length ≤ 100 ∧ c.r.length ≤ 100) ∧ ∀ H' L, Same H H' → CfgsIn H' L cs → Q (.ref L) H'
theorem ok_readOff {f : Addr} {fd : FuncData} (F : Fun K "read_off" "read_off" sReadOff f fd) (cU : C8.Met P w K mg base 3 C "up" (spUp C CT CS CL) []) (cW : C8.Cal P w K mg base 1 "without_ends" spWithoutEnds []) (cN : C8.Cal P w K mg base 1 "next_floor" spNextFloor []) :
    FnOk P w K mg base CX0 4 f fd ["stair", "rows"] (spReadOff C CT CS CL) := by
  refine F.ok scReadOff (fun vs H Q E h => ?_) (fun cdv A outer s H vs Q E hr h => ?_)
  · obtain ⟨S, t, R, m, st, rs, rows, cs, rfl, _⟩ := h
    rfl
  · obtain ⟨S, t, R, m, st, rs, rows, cs, rfl, hS, m2, m5, s1', s4', ⟨ps, hR, lenp, hrow⟩, lenr, lenc, each, q⟩ := h
    refine ⟨_, pss_cons (ps_set (i := 2) scReadOff.nd rfl (Or.inl rfl) (pe_lst pa_nil))
      (pss_cons (ps_for PassesOwn.never rfl (pi_list (pv 1)) (pg_name (i := 3) scReadOff.nd rfl (Or.inl rfl))
        (pss_cons (ps_set (i := 4) scReadOff.nd rfl (Or.inl rfl) (C8.pe_mt cU hr (by decide) (pv 0) (pa_cons (C8.pe_c cW hr (by decide) (by rfl) (pa_cons (C8.pe_c cN hr (by decide) (by rfl) (pa_cons (pv 3) pa_nil)) pa_nil)) pa_nil)))
        (pss_cons (ps_if (pt_cmpR op_isN (pv 4) pe_non (nomark _)) (pss_one ps_never) pss_nil)
        (pss_one (ps_expr (pe_bm PySem.F.plainAttrs_list PySem.F.slot_list_append PySem.F.type_list_append mt_append (pv 2) (pa_cons (pv 4) pa_nil)))))))
      (pss_one (ps_ret (pv 2)))), ?_⟩
    refine ⟨Nat.zero_le _, fun D nD => ?_⟩
    have sD := same_upd (o := .lst []) nD
    refine ⟨_, rfl, R, rfl, ⟨_, sqL (sD _ _ hR)⟩, ?_⟩
    refine for_list (K := K) (a := R) (xs := ps.map V.ref) (fun i σ H1 => Same H H1 ∧ (∃ y3 y4, σ = [some (.ref S), some (.ref R), some (.ref D), y3, y4]) ∧ CfgsIn H1 D (cs.take i)) ⟨sD, ⟨none, none, rfl⟩, CfgsIn.nil upd_same⟩ (fun i σ H1 _ h1 => sqL (h1.1 _ _ hR)) ?_ ?_
    · rintro i x σ H1 hx ⟨s1, ⟨y3, y4, rfl⟩, hin⟩
      obtain ⟨p, hp, rfl⟩ := addr_get hx
      have li : i < rows.length := by
        rw [← lenp]
        exact (List.getElem?_eq_some_iff.mp hp).1
      have hri : rows[i]? = some rows[i] := List.getElem?_eq_getElem li
      have hci : cs[i]? = some cs[i] := List.getElem?_eq_getElem (by omega)
      generalize rows[i] = r at hri
      generalize cs[i] = c at hci
      obtain ⟨l60, est, ok, ll, lr⟩ := each i r c hri hci
      have hS1 := hS.mono s1
      obtain ⟨dx, B, dxb, L2, h1, _⟩ := id hS1
      refine ⟨_, rfl, S, dx, _, rfl, h1, by rfl, _, rfl, p, r, rfl, (hrow i p r hp hri).mono s1, l60, fun H2 N s2 nN hN => ?_⟩
      refine ⟨N, _, rfl, hN, by rw [List.length_map]; omega, fun H3 z s3 hz => ?_⟩
      rw [est] at hz
      have s13 := s2.trans s3
      refine ⟨S, t, z, m, st, rs, c, rfl, hS1.mono s13, m2, m5, s1', s4', ok, ll, lr, hz, fun H4 p4 s4 h4 => ?_⟩
      refine ⟨_, rfl, rfl, _, rfl, iteF ?_⟩
      have s14 := s13.trans s4
      have hin4 := hin.mono s14
      obtain ⟨ps4, hD4, _⟩ := id hin4
      obtain ⟨hin5, la⟩ := hin4.snoc h4 hD4
      refine ⟨_, rfl, .inl ⟨rfl, _, sqL hD4⟩, _, rfl, D, _, _, rfl, rfl, hD4, ?_, same_over (s1.trans s14) nD, ⟨_, _, rfl⟩, ?_⟩
      · rw [la, List.length_take]
        exact lt_line (by omega)
      · rw [← take_snoc hci]
        exact hin5
    · rintro σ H1 ⟨s1, ⟨y3, y4, rfl⟩, hin⟩
      rw [List.length_map, lenp, ← lenc, List.take_length] at hin
      exact ⟨_, rfl, q H1 D s1 hin⟩
end
end L2.K23
set_option Elab.async false
set_option linter.all false
set_option maxRecDepth 100000
set_option maxHeartbeats 4000000
/-! Helpers for fill. -/
namespace L2.K23
open PySem PySem.Spec PyProof.Rows
open _root_.K23 (T4 Mach Cfg IsRow Run floorAt)
theorem cut_init (xs : List V) : cutV xs none (some (-1)) = xs.take (xs.length - 1) := by
  have e : HT.sIx xs.length xs.length (some (-1)) = xs.length - 1 := by
    show (if (-1 : Int) < 0 then ((-1 : Int) + (xs.length : Int)).toNat else min (-1 : Int).toNat xs.length) = _
    rw [if_pos (by decide)]
    omega
  unfold cutV
  rw [HT.sIx_none, e]
  simp
theorem for_revL {K : PySem.W.Frag} {a : Addr} {xs : List V} {g : TG} {tb : TS} {D : Ends} {σ : St} {H : Hp} (Pv : Nat → St → Hp → Prop) (h0 : Pv 0 σ H) (hl : ∀ i σ H, Pv i σ H → SqL K H a xs)
    (hs : ∀ i x σ H, i < xs.length → xs[xs.length - 1 - i]? = some x → Pv i σ H → g x σ H fun σ2 H2 => tb { D with nx := Pv (i + 1), ct := Pv (i + 1), bk := D.nx } σ2 H2) (hd : ∀ σ H, Pv xs.length σ H → D.nx σ H) :
    ∃ W : Nat → Nat → St → Hp → Prop, (∃ m, W 0 m σ H) ∧ ∀ i m σ H, W i m σ H → ((Itv K a xs.length).stop i H ∧ D.nx σ H) ∨
      ((Itv K a xs.length).go i H ∧ ∃ N : St → Hp → Prop, (∀ σ' H', N σ' H' → ∃ m', m' < m ∧ W (i + 1) m' σ' H') ∧ ∀ x H', (Itv K a xs.length).yld i H x H' → g x σ H' fun σ2 H2 => tb { D with nx := N, ct := N, bk := D.nx } σ2 H2) := by
  refine ⟨fun i m σ H => m = xs.length - i ∧ i ≤ xs.length ∧ Pv i σ H, ⟨xs.length, rfl, Nat.zero_le _, h0⟩, ?_⟩
  rintro i m σ H ⟨rfl, hi, p⟩
  have q := hl i σ H p
  by_cases lt : i < xs.length
  · have gx : xs[xs.length - 1 - i]? = some (xs[xs.length - 1 - i]'(by omega)) := List.getElem?_eq_getElem (by omega)
    refine .inr ⟨⟨lt, xs, _, q, gx⟩, Pv (i + 1), fun σ' H' p' => ⟨xs.length - (i + 1), by omega, rfl, lt, p'⟩, fun x H' y => ?_⟩
    obtain ⟨rfl, fx⟩ := y
    exact hs i x σ H' lt (fx _ q) p
  · have e : i = xs.length := by omega
    subst e
    exact .inl ⟨Nat.le_refl _, hd σ H p⟩
/-! ### layers -/
def layK : Option (List Int) → List (List Key × V)
  | none => []
  | some f => [(floorK f, .bl true)]
theorem layK_has (o : Option (List Int)) (f : List Int) : (valV (layK o) (floorK f)).isSome = decide (o = some f) := by
  cases o with
  | none => rfl
  | some g =>
    by_cases e : g = f
    · subst e
      show (valV [(floorK g, V.bl true)] (floorK g)).isSome = _
      rw [valV_pos rfl, decide_eq_true rfl]
      rfl
    · show (valV [(floorK g, V.bl true)] (floorK f)).isSome = _
      rw [valV_neg (fun z => e (floorK_inj z)), valV_nil, decide_eq_false fun z => e (Option.some.inj z)]
      rfl
theorem layK_len (o : Option (List Int)) : (layK o).length ≤ 1 := by
  cases o with
  | none => exact Nat.zero_le _
  | some g => exact Nat.le_refl _
/-- the floors after i rows -/
def lay (f : List Int) (rs : List (List T4)) (i : Nat) : Option (List Int) := if i ≤ rs.length then some (floorAt f rs i) else none
/-- .. those from which the corner can be filled -/
def gd (f : List Int) (rs : List (List T4)) (h i : Nat) : Option (List Int) := if rs.length = h then some (floorAt f rs i) else none
/-- lists and tuples stay, but for the list G -/
def KeepSq (G : Addr) (H H' : Hp) : Prop := (∀ b xs, H b = some (.tup xs) → H' b = some (.tup xs)) ∧ ∀ b xs, H b = some (.lst xs) → b ≠ G → H' b = some (.lst xs)
theorem KeepSq.same {G : Addr} {H H' : Hp} (s : Same H H') : KeepSq G H H' := ⟨fun b xs h => s _ _ h, fun b xs h _ => s _ _ h⟩
theorem KeepSq.trans {G : Addr} {H H' H'' : Hp} (s : KeepSq G H H') (t : KeepSq G H' H'') : KeepSq G H H'' := ⟨fun b xs h => t.1 _ _ (s.1 _ _ h), fun b xs h n => t.2 _ _ (s.2 _ _ h n) n⟩
theorem KeepSq.dT {G : Addr} {H : Hp} {a : Addr} {kvs : List (List Key × V)} (h : H a = some (.dT kvs)) (u : HO) : KeepSq G H (upd H a u) :=
  ⟨fun b xs hb => by
    rw [upd_ne (ne_of hb h (by intro z; cases z))]
    exact hb, fun b xs hb _ => by
    rw [upd_ne (ne_of hb h (by intro z; cases z))]
    exact hb⟩
theorem KeepSq.frz {G : Addr} {H : Hp} {a : Addr} {o : Obj} {kvs : List (List Key × V)} (h : H a = some (.frz o (.dT kvs))) (u : HO) : KeepSq G H (upd H a u) :=
  ⟨fun b xs hb => by
    rw [upd_ne (ne_of hb h (by intro z; cases z))]
    exact hb, fun b xs hb _ => by
    rw [upd_ne (ne_of hb h (by intro z; cases z))]
    exact hb⟩
theorem KeepSq.lst {G : Addr} {H : Hp} {xs : List V} (h : H G = some (.lst xs)) (u : HO) : KeepSq G H (upd H G u) :=
  ⟨fun b xs hb => by
    rw [upd_ne (ne_of hb h (by intro z; cases z))]
    exact hb, fun b xs hb n => by
    rw [upd_ne n]
    exact hb⟩
theorem RowAt.keep {G : Addr} {H H' : Hp} {p : Addr} {r : List T4} (h : RowAt H p r) (s : KeepSq G H H') : RowAt H' p r := by
  obtain ⟨as, e, hp, st⟩ := h
  exact ⟨as, e, s.1 _ _ hp, fun x hx => s.1 _ _ (st x hx)⟩
theorem RowsL.keep {G : Addr} {H H' : Hp} {l : Addr} {o : Option (List T4)} (h : RowsL H l o) (n : l ≠ G) (s : KeepSq G H H') : RowsL H' l o := by
  cases o with
  | none => exact s.2 _ _ h n
  | some r =>
    obtain ⟨p, h1, h2⟩ := h
    exact ⟨p, s.2 _ _ h1 n, h2.keep s⟩
/-- the steps that are known -/
def StepsOk (L : T4 → Prop) (H : Hp) (G : Addr) (kvs : List (List Key × V)) : Prop := ∀ (g : List Int) (v : V), valV kvs (floorK g) = some v → ∃ (l : Addr) (o : Option (List T4)), v = .ref l ∧ RowsL H l o ∧ l ≠ G ∧ One L 0 0 g o
theorem StepsOk.keep {L : T4 → Prop} {H H' : Hp} {G : Addr} {kvs : List (List Key × V)} (h : StepsOk L H G kvs) (s : KeepSq G H H') : StepsOk L H' G kvs := fun g v e => by
  obtain ⟨l, o, e1, h1, n, one⟩ := h g v e
  exact ⟨l, o, e1, h1.keep n s, n, one⟩
theorem StepsOk.put {L : T4 → Prop} {H : Hp} {G l : Addr} {kvs : List (List Key × V)} {o : Option (List T4)} {f : List Int} (h : StepsOk L H G kvs) (hl : RowsL H l o) (n : l ≠ G) (one : One L 0 0 f o) : StepsOk L H G (putK kvs (floorK f) (.ref l)) := fun g v e => by
  rw [valV_put] at e
  by_cases eq : floorK g = floorK f
  · rw [if_pos eq] at e
    cases e
    rw [floorK_inj eq]
    exact ⟨l, o, rfl, hl, n, one⟩
  · rw [if_neg eq] at e
    exact h g v e
/-- the floors of the first i layers are among the keys -/
def Seen (f : List Int) (rs : List (List T4)) (kvs : List (List Key × V)) (i : Nat) : Prop := ∀ j, j < i → j ≤ rs.length → (valV kvs (floorK (floorAt f rs j))).isSome = true
theorem Seen.put {f g : List Int} {rs : List (List T4)} {kvs : List (List Key × V)} {i : Nat} {v : V} (h : Seen f rs kvs i) : Seen f rs (putK kvs (floorK g) v) i := fun j h1 h2 => by
  rw [valV_put]
  by_cases eq : floorK (floorAt f rs j) = floorK g
  · rw [if_pos eq]
    rfl
  · rw [if_neg eq]
    exact h j h1 h2
theorem Seen.succ {f : List Int} {rs : List (List T4)} {kvs : List (List Key × V)} {i : Nat} (h : Seen f rs kvs i) (k : i ≤ rs.length → (valV kvs (floorK (floorAt f rs i))).isSome = true) : Seen f rs kvs (i + 1) := fun j h1 h2 => by
  by_cases e : j = i
  · subst e
    exact k h2
  · exact h j (by omega) h2
/-- what a row's floor is found to be -/
theorem rd_lock {H : Hp} {dl dg : Addr} {od : Obj} {kl k : List (List Key × V)} (hl : H dl = some (.dT kl)) (hg : H dg = some (.dT k)) : Rd (upd H dl (.frz od (.dT kl))) dg (.dT k) := by
  by_cases e : dg = dl
  · subst e
    rw [hl] at hg
    cases hg
    exact .inr ⟨od, upd_same⟩
  · exact .inl (by rw [upd_ne e]; exact hg)
theorem Rd.mono {H H' : Hp} {a : Addr} {o : HO} (h : Rd H a o) (s : Same H H') : Rd H' a o := by
  rcases h with h | ⟨od, h⟩
  · exact .inl (s _ _ h)
  · exact .inr ⟨od, s _ _ h⟩
theorem dget_rd {H : Hp} {a b : Addr} {kvs : List (List Key × V)} {f : List Int} (h : Rd H a (.dT kvs)) (hb : TupI H b f) : DGet H a (.ref b) (valV kvs (floorK f)) := .inr ⟨kvs, floorK f, b, h, rfl, hb.key, rfl⟩
theorem RowsIn.snoc {H : Hp} {R p : Addr} {rs : List (List T4)} {r : List T4} {acc : List V} (h : RowsIn H R rs) (hp : RowAt H p r) (hacc : H R = some (.lst acc)) : RowsIn (upd H R (.lst (acc ++ [.ref p]))) R (rs ++ [r]) ∧ acc.length = rs.length := by
  obtain ⟨ps, h1, h2, h3⟩ := h
  rw [hacc] at h1
  cases h1
  have kk : KeepSq R H (upd H R (.lst (ps.map V.ref ++ [.ref p]))) := KeepSq.lst hacc _
  refine ⟨⟨ps ++ [p], by rw [upd_same, List.map_append]; rfl, by rw [List.length_append, List.length_append, h2]; rfl, fun i q d e1 e2 => ?_⟩, by rw [List.length_map, h2]⟩
  by_cases lt : i < ps.length
  · rw [List.getElem?_append_left lt] at e1
    rw [List.getElem?_append_left (by omega)] at e2
    exact (h3 i q d e1 e2).keep kk
  · rw [List.getElem?_append_right (by omega)] at e1
    rw [List.getElem?_append_right (by omega), ← h2] at e2
    by_cases e0 : i - ps.length = 0
    · rw [e0] at e1 e2
      cases e1
      cases e2
      exact hp.keep kk
    · obtain ⟨j, hj⟩ : ∃ j, i - ps.length = j + 1 := ⟨i - ps.length - 1, by omega⟩
      rw [hj] at e1
      cases e1
/-- layers, in a list: their places -/
def LaysAt (H0 H : Hp) (Sd : Addr) (lays : Nat → Option (List Int)) (ds : List Addr) : Prop := ∀ (j : Nat) (d : Addr), ds[j]? = some d → H d = some (.dT (layK (lays j))) ∧ d ≠ Sd ∧ H0 d = none
theorem LaysAt.keep {H0 H H' : Hp} {Sd : Addr} {lays : Nat → Option (List Int)} {ds : List Addr} (h : LaysAt H0 H Sd lays ds) (s : ∀ b kvs, H b = some (.dT kvs) → b ≠ Sd → H' b = some (.dT kvs)) : LaysAt H0 H' Sd lays ds := fun j d e => by
  obtain ⟨h1, h2, h3⟩ := h j d e
  exact ⟨s _ _ h1 h2, h2, h3⟩
theorem LaysAt.snoc {H0 H : Hp} {Sd A : Addr} {lays : Nat → Option (List Int)} {ds : List Addr} {i : Nat} (h : LaysAt H0 H Sd lays ds) (lds : ds.length = i) (hA : H A = some (.dT (layK (lays i)))) (n : A ≠ Sd) (nA : H0 A = none) : LaysAt H0 H Sd lays (ds ++ [A]) := fun j d e => by
  by_cases lt : j < ds.length
  · rw [List.getElem?_append_left lt] at e
    exact h j d e
  · rw [List.getElem?_append_right (by omega)] at e
    by_cases e0 : j - ds.length = 0
    · rw [e0] at e
      cases e
      have : j = i := by omega
      subst this
      exact ⟨hA, n, nA⟩
    · obtain ⟨k, hk⟩ : ∃ k, j - ds.length = k + 1 := ⟨j - ds.length - 1, by omega⟩
      rw [hk] at e
      cases e
end L2.K23
set_option Elab.async false
set_option linter.all false
set_option maxRecDepth 100000
set_option maxHeartbeats 4000000
/-! fill. -/
namespace L2.K23
open PySem PySem.Spec PyProof.Rows
open _root_.K23 (T4 Mach Cfg IsRow Run floorAt)
section
variable {P : Program} {w : World} {K : PySem.W.Frag} {mg : Str → Option Value} {base : Heap} {C : Addr}
/-- the rows that stand on one floor, each to its next floor -/
theorem fill_rows {L : T4 → Prop} {D : Ends} {H8 : Hp} {G Sd A0 p : Addr} {x0 x1 x2 x3 x4 x5 x7 y10 x11 x12 x13 x14 x15 : Option V} {kvs : List (List Key × V)} {fi : List Int} {oi : Option (List T4)} (hSd : H8 Sd = some (.dT kvs)) (hA : H8 A0 = some (.dT [])) (SA : Sd ≠ A0) (hp : TupI H8 p fi)
    (sok : StepsOk L H8 G kvs) (seen : (valV kvs (floorK fi)).isSome = true) (one : One L 0 0 fi oi) (lfi : fi.length ≤ 60)
    (nx : ∀ (H9 : Hp) (y : Option V), (∀ b o, H8 b = some o → b ≠ A0 → H9 b = some o) → H9 A0 = some (.dT (layK (oi.map fun r => r.map T4.n))) → D.nx [x0, x1, x2, x3, x4, x5, some (.ref Sd), x7, some (.ref A0), some (.ref p), y, x11, x12, x13, x14, x15] H9) :
    tFor (iList K (tDGet (tVar 6) (tVar 9))) (gName 10) (sDPut (tVar 8) (tCall spNextFloor [] C8.E0 (tCons (tVar 10) tNil)) (tC (.bl true))) D [x0, x1, x2, x3, x4, x5, some (.ref Sd), x7, some (.ref A0), some (.ref p), y10, x11, x12, x13, x14, x15] H8 := by
  obtain ⟨v, hv⟩ := Option.isSome_iff_exists.mp seen
  obtain ⟨l, o', rfl, hl, ng, one'⟩ := sok fi v hv
  have eo := one_unique one' one
  subst eo
  refine ⟨_, rfl, _, rfl, Sd, .ref l, rfl, by rw [← hv]; exact dget_rd (.inl hSd) hp, l, rfl, ?_⟩
  cases o' with
  | none =>
    have hl : H8 l = some (.lst []) := hl
    refine ⟨⟨_, sqL hl⟩, ?_⟩
    refine for_list (K := K) (a := l) (xs := []) (fun m σ H6 => H6 = H8 ∧ σ = [x0, x1, x2, x3, x4, x5, some (.ref Sd), x7, some (.ref A0), some (.ref p), y10, x11, x12, x13, x14, x15]) ⟨rfl, rfl⟩
      (fun m σ H6 _ h6 => by rw [h6.1]; exact sqL hl) (fun m x σ H6 hx => by simp at hx) ?_
    rintro σ H6 ⟨rfl, rfl⟩
    exact nx _ _ (fun b o hb _ => hb) hA
  | some r =>
    obtain ⟨q, hl, row⟩ := hl
    have lenr : r.length = fi.length := ((one' r).mpr rfl).length
    refine ⟨⟨_, sqL hl⟩, ?_⟩
    have lA : l ≠ A0 := ne_of hl hA (by intro z; cases z)
    have kd : ∀ {H9 H10 : Hp}, H9 A0 = some (.dT []) → (∀ b o, H9 b = some o → b ≠ A0 → H10 b = some o) → RowAt H9 q r → RowAt H10 q r := fun {H9 H10} hA9 k hr => by
      obtain ⟨as, e, hq, st⟩ := hr
      exact ⟨as, e, k _ _ hq (ne_of hq hA9 (by intro z; cases z)), fun x hx => k _ _ (st x hx) (ne_of (st x hx) hA9 (by intro z; cases z))⟩
    refine for_list (K := K) (a := l) (xs := [.ref q]) (fun m σ H6 => (∃ y, σ = [x0, x1, x2, x3, x4, x5, some (.ref Sd), x7, some (.ref A0), some (.ref p), y, x11, x12, x13, x14, x15]) ∧ (∀ b o, H8 b = some o → b ≠ A0 → H6 b = some o) ∧ ((m = 0 ∧ H6 A0 = some (.dT [])) ∨ (m = 1 ∧ H6 A0 = some (.dT [(floorK (r.map T4.n), .bl true)]))))
      ⟨⟨_, rfl⟩, fun b o hb _ => hb, .inl ⟨rfl, hA⟩⟩ (fun m σ H6 _ h6 => sqL (h6.2.1 _ _ hl lA)) ?_ ?_
    · rintro m x σ H6 hx ⟨⟨y, rfl⟩, k6, hm⟩
      have em : m = 0 := by
        have := (List.getElem?_eq_some_iff.mp hx).1
        simp at this
        exact this
      subst em
      have ex : x = .ref q := by
        simp at hx
        exact hx.symm
      subst ex
      have hA6 : H6 A0 = some (.dT []) := by
        rcases hm with ⟨_, e⟩ | ⟨e, _⟩
        · exact e
        · cases e
      refine ⟨_, rfl, _, rfl, q, r, rfl, kd hA k6 row, by omega, fun H7 N s7 nN hN => ?_⟩
      refine ⟨A0, _, rfl, DPut.t (k := floorK (r.map T4.n)) (s7 _ _ hA6) hN.key (lt_line (show 0 ≤ 100000 by decide)), ⟨_, rfl⟩, fun b o hb n => ?_, .inr ⟨rfl, upd_same⟩⟩
      rw [upd_ne n]
      exact s7 _ _ (k6 _ _ hb n)
    · rintro σ H6 ⟨⟨y, rfl⟩, k6, hm⟩
      rcases hm with ⟨e, _⟩ | ⟨_, e⟩
      · cases e
      · exact nx _ _ k6 e
theorem scFill : FnScope ["tiles", "floor", "left", "right", "height", "layers", "steps", "_", "after", "one", "row", "good", "layer", "found", "rows", "level"] ["tiles", "floor", "left", "right", "height"] (defScope sFill) := ⟨rfl, rfl, rfl, by decide +kernel, rfl, by decide +kernel, by decide +kernel⟩
def spFill (C : Addr) : Sp := fun vs H Q _ => ∃ (S F : Addr) (ts : List T4) (f : List Int) (h : Nat) (rs : List (List T4)), vs = [.ref S, .ref F, .int 0, .int 0, .int (h : Int)] ∧ TilesAt C H S ts ∧ ts.Nodup ∧ ts.length ≤ 100 ∧ TupI H F f ∧ 0 < f.length ∧ f.length ≤ 60 ∧ h ≤ 60 ∧
  Run (fun t => t ∈ ts) f h rs ∧ ∀ H', Same H H' → (rs.length ≠ h → Q .non H') ∧ (∀ R, rs.length = h → RowsIn H' R rs → Q (.ref R) H')
theorem ok_fill {f : Addr} {fd : FuncData} (F : Fun K "fill" "fill" sFill f fd) (B : Bi mg) (Z : Cs mg) (cS : C8.Cal P w K mg base 1 "_check_size" spCheckSize []) (cR : C8.Cal P w K mg base 3 "rows_on" (spRows C) []) (cN : C8.Cal P w K mg base 1 "next_floor" spNextFloor []) :
    FnOk P w K mg base CX0 4 f fd ["tiles", "floor", "left", "right", "height"] (spFill C) := by
  refine F.ok scFill (fun vs H Q E h => ?_) (fun cdv A outer s H vs Q E hr h => ?_)
  · obtain ⟨S, F, ts, f, h, rs, rfl, _⟩ := h
    rfl
  · obtain ⟨S, F, ts, f, h, rs, rfl, hS, nd, lent, hF, pos, len, hh, run, q⟩ := h
    have hu := hu_of hr
    refine ⟨_, pss_cons (ps_expr (C8.pe_c cS hr (by decide) (by rfl) (pa_cons (pv 1) (pa_cons (pv 4) pa_nil))))
      (pss_cons (ps_set (i := 5) scFill.nd rfl (Or.inl rfl) (pe_lst (pa_cons (pe_disp1T hu (pv 1) pe_bl) pa_nil)))
      (pss_cons (ps_set (i := 6) scFill.nd rfl (Or.inl rfl) pe_dnewT)
      (pss_cons (ps_for PassesOwn.never rfl (pi_range1 (by rfl) B.range (pa_cons (pv 4) pa_nil)) (pg_name (i := 7) scFill.nd rfl (Or.inl rfl))
        (pss_cons (ps_set (i := 8) scFill.nd rfl (Or.inl rfl) pe_dnewT)
        (pss_cons (ps_lock (ps_for PassesOwn.never rfl (pi_keys (pe_ix (ix_listK K) (pv 5) (pe_un un_neg pe_int) (fun _ _ => rfl))) (pg_name (i := 9) scFill.nd rfl (Or.inl rfl))
          (pss_cons (ps_if (pt_cmp (pc_dnotin hu (pv 9) (pv 6))) (pss_one (ps_dput hu (pv 6) (pv 9) (C8.pe_c cR hr (by decide) (by rfl) (pa_cons (pv 0) (pa_cons (pv 9) (pa_cons (pv 2) (pa_cons (pv 3) pa_nil))))) rfl)) pss_nil)
          (pss_one (ps_for PassesOwn.never rfl (pi_list (pe_dget hu (pv 6) (pv 9) (fun _ _ => rfl))) (pg_name (i := 10) scFill.nd rfl (Or.inl rfl))
            (pss_one (ps_dput hu (pv 8) (C8.pe_c cN hr (by decide) (by rfl) (pa_cons (pv 10) pa_nil)) pe_bl rfl)))))))
        (pss_cons (ps_if (pt_cmpR op_gt (pe_callB call_len_dT (by rfl) B.len PySem.boot_len (pa_cons (pv 8) pa_nil)) (C8.pe_gc (by rfl) Z.floors) (nomark _)) (pss_one ps_never) pss_nil)
        (pss_one (ps_expr (pe_bm PySem.F.plainAttrs_list PySem.F.slot_list_append PySem.F.type_list_append mt_append (pv 5) (pa_cons (pv 8) pa_nil))))))))
      (pss_cons (ps_set (i := 11) scFill.nd rfl (Or.inr rfl) (pe_lst (pa_cons (pe_ix (ix_listK K) (pv 5) (pv 4) (fun _ _ => rfl)) pa_nil)))
      (pss_cons (ps_for PassesOwn.never rfl (RT.pi_revA (by rfl) B.reversed (pe_slice sl_list (pv 5) po_none (po_some (pe_un un_neg pe_int)))) (pg_name (i := 12) scFill.nd rfl (Or.inl rfl))
        (pss_cons (ps_set (i := 13) scFill.nd rfl (Or.inl rfl) pe_dnewT)
        (pss_cons (ps_lock (ps_for PassesOwn.never rfl (pi_keys (pv 12)) (pg_name (i := 9) scFill.nd rfl (Or.inl rfl))
          (pss_one (ps_if (pt_val (pe_callB (cr_any rfl) (by rfl) B.any boot_any (pa_cons (pe_lc (own := [("row", 10)]) (g := gName 10) (by rfl) scFill.nd (pi_list (pe_dget hu (pv 6) (pv 9) (fun _ _ => rfl)))
              (blkOk_by (N := ["tiles", "floor", "left", "right", "height", "layers", "steps", "_", "after", "one", "row", "good", "layer", "found", "rows", "level"]) (sc := defScope sFill) (by decide +kernel))
              (fun _ _ _ _ _ => pg_name (i := 10) scFill.nd rfl (Or.inl rfl)) (fun _ _ _ _ _ => pts_nil)
              (fun _ _ _ _ _ => pe_cmp (pc_din hu (C8.pe_c cN hr (by decide) (by rfl) (pa_cons (pv 10) pa_nil)) (pe_ix (ix_listK K) (pv 11) (pe_un un_neg pe_int) (fun _ _ => rfl))))) pa_nil)))
            (pss_one (ps_dput hu (pv 13) (pv 9) pe_bl rfl)) pss_nil))))
        (pss_one (ps_expr (pe_bm PySem.F.plainAttrs_list PySem.F.slot_list_append PySem.F.type_list_append mt_append (pv 11) (pa_cons (pv 13) pa_nil)))))))
      (pss_cons (ps_set (i := 11) scFill.nd rfl (Or.inr rfl) (pe_revL (pv 11)))
      (pss_cons (ps_if (pt_cmp (pc_dnotin hu (pv 1) (pe_ix (ix_listK K) (pv 11) pe_int (fun _ _ => rfl)))) (pss_one (ps_ret pe_non)) pss_nil)
      (pss_cons (ps_set (i := 14) scFill.nd rfl (Or.inl rfl) (pe_lst pa_nil))
      (pss_cons (ps_for PassesOwn.never rfl (pi_range1 (by rfl) B.range (pa_cons (pv 4) pa_nil)) (pg_name (i := 15) scFill.nd rfl (Or.inr rfl))
        (pss_cons (ps_set (i := 10) scFill.nd rfl (Or.inl rfl) (pe_ix (ix_listK K) (pe_lc (own := [("one", 9)]) (g := gName 9) (by rfl) scFill.nd (pi_list (pe_dget hu (pv 6) (pv 1) (fun _ _ => rfl)))
              (blkOk_by (N := ["tiles", "floor", "left", "right", "height", "layers", "steps", "_", "after", "one", "row", "good", "layer", "found", "rows", "level"]) (sc := defScope sFill) (by decide +kernel))
              (fun _ _ _ _ _ => pg_name (i := 9) scFill.nd rfl (Or.inl rfl))
              (fun _ _ _ _ _ => pts_one (pt_cmp (pc_din hu (C8.pe_c cN hr (by decide) (by rfl) (pa_cons (pv 9) pa_nil)) (pe_ix (ix_listK K) (pv 11) (pe_op op_add (pv 15) pe_int) (fun _ _ => rfl)))))
              (fun _ _ _ _ _ => pv 9)) pe_int (fun _ _ => rfl)))
        (pss_cons (ps_expr (pe_bm PySem.F.plainAttrs_list PySem.F.slot_list_append PySem.F.type_list_append mt_append (pv 14) (pa_cons (pv 10) pa_nil)))
        (pss_one (ps_set (i := 1) scFill.nd rfl (Or.inl rfl) (C8.pe_c cN hr (by decide) (by rfl) (pa_cons (pv 10) pa_nil)))))))
      (pss_one (ps_ret (pv 14)))))))))))), ?_⟩
    -- _check_size(floor, height)
    refine ⟨_, rfl, _, rfl, F, f, (h : Int), rfl, hF, len, by omega, ?_⟩
    -- layers = [{floor: True}]
    intro D0 nD0
    refine ⟨_, rfl, floorK f, F, upd_same, rfl, ?_, ?_⟩
    · rw [floorK_kV]
      exact same_upd nD0 _ _ hF
    rw [upd_upd]
    have e0 : ([(floorK f, .bl true)] : List (List Key × V)) = layK (lay f rs 0) := by
      unfold lay
      rw [if_pos (Nat.zero_le _)]
      rfl
    rw [e0]
    have s1 := same_upd (o := .dT (layK (lay f rs 0))) nD0
    have hD0 : upd H D0 (.dT (layK (lay f rs 0))) D0 = some (.dT (layK (lay f rs 0))) := upd_same
    generalize upd H D0 (.dT (layK (lay f rs 0))) = H1 at s1 hD0
    refine ⟨le_line (show 1 ≤ 100000 by decide), fun G nG => ?_⟩
    have s2 := same_upd (o := .lst [.ref D0]) nG
    have hG0 : upd H1 G (.lst [.ref D0]) G = some (.lst [.ref D0]) := upd_same
    have nGH : H G = none := s1.free nG
    generalize upd H1 G (.lst [.ref D0]) = H2 at s2 hG0
    -- steps = {}
    intro Sd nSd
    have s3 := same_upd (o := .dT []) nSd
    have hSd0 : upd H2 Sd (.dT []) Sd = some (.dT []) := upd_same
    have nSdH : H Sd = none := (s1.trans s2).free nSd
    generalize upd H2 Sd (.dT []) = H3 at s3 hSd0
    have GS : G ≠ Sd := ne_of_none hG0 nSd
    have D0S : D0 ≠ Sd := ne_of_none (s2 _ _ hD0) nSd
    have lenRs := _root_.K23.run_len run
    -- for _ in range(height)
    refine ⟨_, rfl, (h : Int), rfl, by omega, by omega, ?_⟩
    refine for_range (lo := 0) (n := h) (fun i σ H4 => Same H H4 ∧ (∃ y7 y8 y9 y10 : Option V, σ = [some (.ref S), some (.ref F), some (.int 0), some (.int 0), some (.int (h : Int)), some (.ref G), some (.ref Sd), y7, y8, y9, y10, none, none, none, none, none]) ∧
        (∃ ds : List Addr, H4 G = some (.lst (ds.map V.ref)) ∧ ds.length = i + 1 ∧ LaysAt H H4 Sd (lay f rs) ds) ∧ ∃ kvs, H4 Sd = some (.dT kvs) ∧ kvs.length ≤ i ∧ StepsOk (fun t => t ∈ ts) H4 G kvs ∧ Seen f rs kvs i)
      ⟨(s1.trans s2).trans s3, ⟨none, none, none, none, rfl⟩, ⟨[D0], s3 _ _ hG0, rfl, fun j d e => ?_⟩, [], hSd0, Nat.le_refl _, (fun g v e => by cases e), (fun j z => by omega)⟩ ?_ ?_
    · have ej : j = 0 := by
        have := (List.getElem?_eq_some_iff.mp e).1
        simp at this
        exact this
      subst ej
      have ed : D0 = d := by simpa using e
      subst ed
      exact ⟨s3 _ _ (s2 _ _ hD0), D0S, nD0⟩
    · rintro i σ H4 hi ⟨s04, ⟨y7, y8, y9, y10, rfl⟩, ⟨ds, hG, lds, lays⟩, kvs, hSd, lk, sok, seen⟩
      -- after = {}
      intro A0 nA
      have nAH : H A0 = none := s04.free nA
      have s45 := same_upd (o := .dT []) nA
      have hA5 : upd H4 A0 (.dT []) A0 = some (.dT []) := upd_same
      have GA : G ≠ A0 := ne_of_none hG nA
      have SA : Sd ≠ A0 := ne_of_none hSd nA
      obtain ⟨d, hd⟩ : ∃ d, ds[i]? = some d := ⟨ds[i]'(by omega), List.getElem?_eq_getElem (by omega)⟩
      obtain ⟨hd4, dS, ndH⟩ := lays i d hd
      have dA : d ≠ A0 := ne_of_none hd4 nA
      have dG : d ≠ G := ne_of hd4 hG (by intro z; cases z)
      have hd5 := s45 _ _ hd4
      have s05 := s04.trans s45
      have lays5 : LaysAt H (upd H4 A0 (.dT [])) Sd (lay f rs) ds := lays.keep fun b kv hb _ => s45 _ _ hb
      have hG5 := s45 _ _ hG
      have hSd5 := s45 _ _ hSd
      have sok5 := sok.keep (KeepSq.same (G := G) s45)
      generalize upd H4 A0 (.dT []) = H5 at s45 hA5 hd5 s05 lays5 hG5 hSd5 sok5
      have eds : ds.map V.ref = (ds.map V.ref).take i ++ [.ref d] := last_split (by rw [List.length_map]; exact lds) (by rw [List.getElem?_map, hd]; rfl)
      -- for one in layers[-1]
      refine ⟨d, .dT (layK (lay f rs i)), hd5, True.intro, fun od => ?_⟩
      have k56 : KeepSq G H5 (upd H5 d (.frz od (.dT (layK (lay f rs i))))) := KeepSq.dT hd5 _
      have hd6 : upd H5 d (.frz od (.dT (layK (lay f rs i)))) d = some (.frz od (.dT (layK (lay f rs i)))) := upd_same
      have hA6 : upd H5 d (.frz od (.dT (layK (lay f rs i)))) A0 = some (.dT []) := by
        rw [upd_ne dA.symm]
        exact hA5
      have hG6 : upd H5 d (.frz od (.dT (layK (lay f rs i)))) G = some (.lst (ds.map V.ref)) := by
        rw [upd_ne dG.symm]
        exact hG5
      have hSd6 : upd H5 d (.frz od (.dT (layK (lay f rs i)))) Sd = some (.dT kvs) := by
        rw [upd_ne dS.symm]
        exact hSd5
      have o56 : ∀ b o, H5 b = some o → b ≠ d → upd H5 d (.frz od (.dT (layK (lay f rs i)))) b = some o := fun b o hb n => by
        rw [upd_ne n]
        exact hb
      have sok6 := sok5.keep k56
      have s06 : Same H (upd H5 d (.frz od (.dT (layK (lay f rs i))))) := fun b o hb => o56 _ _ (s05 _ _ hb) (ne_of_none hb ndH)
      generalize upd H5 d (.frz od (.dT (layK (lay f rs i)))) = H6 at k56 hd6 hA6 hG6 hSd6 o56 sok6 s06
      refine ⟨_, rfl, _, rfl, G, ds.map V.ref, -1, .ref d, rfl, rfl, sqL hG6, by rw [eds]; exact atI_last _ _, d, od, rfl, .inr ⟨layK (lay f rs i), hd6, ?_⟩⟩
      refine for_keysT (d := d) (od := od) (kvs := layK (lay f rs i)) (fun j σ H7 => (∀ b o, H6 b = some o → b ≠ A0 → b ≠ Sd → H7 b = some o) ∧ (∃ y9 y10 : Option V, σ = [some (.ref S), some (.ref F), some (.int 0), some (.int 0), some (.int (h : Int)), some (.ref G), some (.ref Sd), some (.int (0 + (i : Int))), some (.ref A0), y9, y10, none, none, none, none, none]) ∧
          (∃ o', H7 A0 = some (.dT (layK o')) ∧ ((j = 0 ∧ o' = none) ∨ (j = 1 ∧ o' = lay f rs (i + 1)))) ∧ ∃ kvs, H7 Sd = some (.dT kvs) ∧ kvs.length ≤ i + j ∧ StepsOk (fun t => t ∈ ts) H7 G kvs ∧ Seen f rs kvs i ∧ (j = 1 → Seen f rs kvs (i + 1)))
        ⟨fun b o hb _ _ => hb, ⟨y9, y10, rfl⟩, ⟨none, hA6, .inl ⟨rfl, rfl⟩⟩, kvs, hSd6, lk, sok6, seen, fun z => by cases z⟩ (fun j σ H7 h7 => h7.1 _ _ hd6 dA dS) ?_ ?_
      · rintro j k v p σ H7 hk hp ⟨o67, ⟨y9, y10, rfl⟩, ⟨o', hA7, hj⟩, kv7, hSd7, lk7, sok7, seen7, _⟩
        cases hlay : lay f rs i with
        | none =>
          rw [hlay] at hk
          simp [layK] at hk
        | some fi =>
          rw [hlay] at hk
          have ej : j = 0 := by
            have := (List.getElem?_eq_some_iff.mp hk).1
            simp [layK] at this
            exact this
          subst ej
          have ek : floorK fi = k := by
            simp [layK] at hk
            exact hk.1
          subst ek
          have eo : o' = none := by
            rcases hj with ⟨_, e⟩ | ⟨e, _⟩
            · exact e
            · cases e
          subst eo
          have hp7 : TupI H7 p fi := by
            rw [floorK_kV] at hp
            exact hp
          obtain ⟨ile, efi⟩ : i ≤ rs.length ∧ floorAt f rs i = fi := by
            unfold lay at hlay
            by_cases c : i ≤ rs.length
            · rw [if_pos c] at hlay
              exact ⟨c, Option.some.inj hlay⟩
            · rw [if_neg c] at hlay
              cases hlay
          obtain ⟨lfi, _, alt⟩ := _root_.K23.run_at run hi ile
          rw [efi] at lfi alt
          obtain ⟨oi, one, olay⟩ : ∃ oi, One (fun t => t ∈ ts) 0 0 fi oi ∧ lay f rs (i + 1) = oi.map fun r => r.map T4.n := by
            unfold lay
            rcases alt with ⟨h1, h2⟩ | ⟨r, h1, h2⟩
            · refine ⟨none, h2, ?_⟩
              have := List.getElem?_eq_none_iff.mp h1
              rw [if_neg (by omega)]
              rfl
            · refine ⟨some r, h2, ?_⟩
              have := (List.getElem?_eq_some_iff.mp h1).1
              rw [if_pos (by omega), _root_.K23.floorAt_succ h1]
              rfl
          have lA7 : ∀ {b xs}, H7 b = some (.tup xs) → b ≠ A0 := fun {b xs} hb => ne_of hb hA7 (by intro z; cases z)
          have GA7 : H7 G = some (.lst (ds.map V.ref)) := o67 _ _ hG6 GA GS
          -- the rest of the turn
          have fin : ∀ (H8 : Hp) (kv8 : List (List Key × V)), (∀ b o, H6 b = some o → b ≠ A0 → b ≠ Sd → H8 b = some o) → H8 A0 = some (.dT []) → H8 Sd = some (.dT kv8) → kv8.length ≤ i + 1 → StepsOk (fun t => t ∈ ts) H8 G kv8 → Seen f rs kv8 i → (valV kv8 (floorK fi)).isSome = true → TupI H8 p fi →
              ∀ {D : Ends}, (∀ (H9 : Hp) (y9 y10 : Option V), (∀ b o, H6 b = some o → b ≠ A0 → b ≠ Sd → H9 b = some o) → H9 A0 = some (.dT (layK (lay f rs (i + 1)))) → (∃ kvs, H9 Sd = some (.dT kvs) ∧ kvs.length ≤ i + 1 ∧ StepsOk (fun t => t ∈ ts) H9 G kvs ∧ Seen f rs kvs i ∧ Seen f rs kvs (i + 1)) →
                D.nx [some (.ref S), some (.ref F), some (.int 0), some (.int 0), some (.int (h : Int)), some (.ref G), some (.ref Sd), some (.int (0 + (i : Int))), some (.ref A0), y9, y10, none, none, none, none, none] H9) →
              tFor (iList K (tDGet (tVar 6) (tVar 9))) (gName 10) (sDPut (tVar 8) (tCall spNextFloor [] C8.E0 (tCons (tVar 10) tNil)) (tC (.bl true))) D [some (.ref S), some (.ref F), some (.int 0), some (.int 0), some (.int (h : Int)), some (.ref G), some (.ref Sd), some (.int (0 + (i : Int))), some (.ref A0), some (.ref p), y10, none, none, none, none, none] H8 := by
            intro H8 kv8 o68 hA8 hSd8 lk8 sok8 seen8 has8 hp8 D nx
            refine fill_rows hSd8 hA8 SA hp8 sok8 has8 one (by omega) fun H9 y o89 hA9 => ?_
            rw [← olay] at hA9
            refine nx H9 _ _ (fun b o hb n1 n2 => o89 _ _ (o68 _ _ hb n1 n2) n1) hA9 ⟨kv8, o89 _ _ hSd8 SA, lk8, sok8.keep ⟨fun b xs hb => o89 _ _ hb (ne_of hb hA8 (by intro z; cases z)), fun b xs hb _ => o89 _ _ hb (ne_of hb hA8 (by intro z; cases z))⟩, seen8, seen8.succ fun _ => by rw [efi]; exact has8⟩
          refine ⟨_, rfl, _, rfl, Sd, _, rfl, DGet.t hSd7 hp7.key, _, rfl, ?_⟩
          have s07 : Same H H7 := fun b o hb => o67 _ _ (s06 _ _ hb) (ne_of_none hb nAH) (ne_of_none hb nSdH)
          refine ite2 (fun e => ?_) (fun e => ?_)
          · -- steps[one] = rows_on(..)
            refine ⟨_, rfl, _, rfl, _, rfl, _, rfl, S, p, ts, fi, 0, 0, oi, rfl, hS.mono s07, nd, lent, hp7, by omega, by omega, one, fun H8 l s8 nl hl8 => ?_⟩
            refine ⟨_, rfl, _, rfl, Sd, _, rfl, DPut.t (k := floorK fi) (s8 _ _ hSd7) (TupI.key (s8 _ _ hp7)) (lt_line (by omega)), ?_⟩
            have lG : l ≠ G := fun z => by
              rw [z, GA7] at nl
              cases nl
            have kq : KeepSq G H8 (upd H8 Sd (.dT (putK kv7 (floorK fi) (.ref l)))) := KeepSq.dT (s8 _ _ hSd7) _
            have lput := length_putK kv7 (floorK fi) (.ref l)
            refine fin _ (putK kv7 (floorK fi) (.ref l)) (fun b o hb n1 n2 => ?_) ?_ upd_same (by omega) ((((sok7.keep (KeepSq.same s8)).keep kq)).put (hl8.keep lG kq) lG one) seen7.put ?_ (kq.1 _ _ (s8 _ _ hp7))
              (fun H9 y9 y10 o69 hA9 ⟨kv9, h1, h2, h3, h4, h5⟩ => ⟨o69, ⟨_, _, rfl⟩, ⟨_, hA9, .inr ⟨rfl, rfl⟩⟩, kv9, h1, h2, h3, h4, fun _ => h5⟩)
            · rw [upd_ne n2]
              exact s8 _ _ (o67 _ _ hb n1 n2)
            · rw [upd_ne SA.symm]
              exact s8 _ _ hA7
            · rw [valV_put, if_pos rfl]
              rfl
          · have has : (valV kv7 (floorK fi)).isSome = true := by
              cases c : (valV kv7 (floorK fi)).isSome with
              | true => rfl
              | false =>
                rw [c] at e
                exact absurd rfl e
            exact fin H7 kv7 o67 hA7 hSd7 (by omega) sok7 seen7 has hp7 (fun H9 y9 y10 o69 hA9 ⟨kv9, h1, h2, h3, h4, h5⟩ => ⟨o69, ⟨_, _, rfl⟩, ⟨_, hA9, .inr ⟨rfl, rfl⟩⟩, kv9, h1, h2, h3, h4, fun _ => h5⟩)
      · rintro σ H7 ⟨o67, ⟨y9, y10, rfl⟩, ⟨o', hA7, hj⟩, kv7, hSd7, lk7, sok7, seen7, seen7'⟩
        obtain ⟨eo, lk8, seen8⟩ : o' = lay f rs (i + 1) ∧ kv7.length ≤ i + 1 ∧ Seen f rs kv7 (i + 1) := by
          cases hlay : lay f rs i with
          | none =>
            rw [hlay] at hj lk7
            have big : ¬ i ≤ rs.length := fun c => by
              unfold lay at hlay
              rw [if_pos c] at hlay
              cases hlay
            have el : lay f rs (i + 1) = none := by
              unfold lay
              rw [if_neg (by omega)]
            have lk7 : kv7.length ≤ i + 0 := lk7
            rcases hj with ⟨_, e⟩ | ⟨e, _⟩
            · exact ⟨e.trans el.symm, by omega, seen7.succ fun c => absurd c big⟩
            · cases e
          | some fi =>
            rw [hlay] at hj lk7 seen7'
            have lk7 : kv7.length ≤ i + 1 := lk7
            rcases hj with ⟨e, _⟩ | ⟨_, e⟩
            · cases e
            · exact ⟨e, lk7, seen7' rfl⟩
        subst eo
        have hd7 := o67 _ _ hd6 dA dS
        refine ⟨hd7, ?_⟩
        have kq : KeepSq G H7 (upd H7 d (.dT (layK (lay f rs i)))) := KeepSq.frz hd7 _
        have hA8 : upd H7 d (.dT (layK (lay f rs i))) A0 = some (.dT (layK (lay f rs (i + 1)))) := by
          rw [upd_ne dA.symm]
          exact hA7
        have hG8 : upd H7 d (.dT (layK (lay f rs i))) G = some (.lst (ds.map V.ref)) := by
          rw [upd_ne dG.symm]
          exact o67 _ _ hG6 GA GS
        have hSd8 : upd H7 d (.dT (layK (lay f rs i))) Sd = some (.dT kv7) := by
          rw [upd_ne dS.symm]
          exact hSd7
        have lays8 : LaysAt H (upd H7 d (.dT (layK (lay f rs i)))) Sd (lay f rs) ds := lays.keep fun b kv hb n => by
          by_cases e : b = d
          · subst e
            rw [hd4] at hb
            cases hb
            exact upd_same
          · rw [upd_ne e]
            exact o67 _ _ (o56 _ _ (s45 _ _ hb) e) (ne_of_none hb nA) n
        have s08 : Same H (upd H7 d (.dT (layK (lay f rs i)))) := same_over (fun b o hb => o67 _ _ (s06 _ _ hb) (ne_of_none hb nAH) (ne_of_none hb nSdH)) ndH
        have sok8 := sok7.keep kq
        generalize upd H7 d (.dT (layK (lay f rs i))) = H8 at hA8 hG8 hSd8 lays8 s08 sok8
        -- if len(after) > MOST_FLOORS
        have ll := layK_len (lay f rs (i + 1))
        refine ⟨_, rfl, A0, _, rfl, hA8, _, _, rfl, rfl, _, rfl, ?_⟩
        rw [decide_eq_false (by omega)]
        refine iteF ?_
        -- layers.append(after)
        have ldsm : (ds.map V.ref).length = i + 1 := by
          rw [List.length_map]
          exact lds
        refine ⟨_, rfl, .inl ⟨rfl, _, sqL hG8⟩, _, rfl, G, _, _, rfl, rfl, hG8, lt_line (by omega), same_over s08 nGH, ⟨_, _, _, _, rfl⟩, ⟨ds ++ [A0], by rw [upd_same, List.map_append]; rfl, by rw [List.length_append, lds]; rfl, ?_⟩, kv7, ?_, lk8, sok8.keep (KeepSq.lst hG8 _), seen8⟩
        · refine (lays8.snoc lds hA8 SA.symm nAH).keep fun b kv hb n => ?_
          rw [upd_ne (ne_of hb hG8 (by intro z; cases z))]
          exact hb
        · rw [upd_ne GS.symm]
          exact hSd8
    · rintro σ H4 ⟨s04, ⟨y7, y8, y9, y10, rfl⟩, ⟨ds, hG, lds, lays⟩, kvs, hSd, lk, sok, seen⟩
      obtain ⟨dh, hdh⟩ : ∃ d, ds[h]? = some d := ⟨ds[h]'(by omega), List.getElem?_eq_getElem (by omega)⟩
      obtain ⟨hdh4, _, _⟩ := lays h dh hdh
      -- good = [layers[height]]
      refine ⟨_, rfl, _, rfl, G, ds.map V.ref, (h : Int), .ref dh, rfl, rfl, sqL hG, at_of (j := h) (by omega) (by rw [List.getElem?_map, hdh]; rfl), le_line (show 1 ≤ 100000 by decide), fun G2 nG2 => ?_⟩
      have s45 := same_upd (o := .lst [.ref dh]) nG2
      have hG25 : upd H4 G2 (.lst [.ref dh]) G2 = some (.lst [.ref dh]) := upd_same
      generalize upd H4 G2 (.lst [.ref dh]) = H5 at s45 hG25
      -- for layer in reversed(layers[:-1])
      have eslice : cutV (ds.map V.ref) none (some (-1)) = (ds.take h).map V.ref := by
        rw [cut_init, List.length_map, lds, List.map_take]
        rfl
      refine ⟨_, rfl, ?_⟩
      unfold tNoPart
      refine ⟨_, rfl, _, rfl, G, ds.map V.ref, rfl, sqL (s45 _ _ hG), fun Lp nLp => ?_⟩
      rw [eslice]
      have s56 := same_upd (o := .lst ((ds.take h).map V.ref)) nLp
      have hLp6 : upd H5 Lp (.lst ((ds.take h).map V.ref)) Lp = some (.lst ((ds.take h).map V.ref)) := upd_same
      have nLp4 : H4 Lp = none := s45.free nLp
      have G2L : G2 ≠ Lp := ne_of_none hG25 nLp
      generalize upd H5 Lp (.lst ((ds.take h).map V.ref)) = H6 at s56 hLp6
      refine ⟨Lp, _, rfl, .inl ⟨sqL hLp6, ?_⟩⟩
      have lxs : ((ds.take h).map V.ref).length = h := by
        rw [List.length_map, List.length_take]
        omega
      refine for_revL (K := K) (a := Lp) (xs := (ds.take h).map V.ref) (fun i σ H7 => Same H4 H7 ∧ (∃ y9 y10 y12 y13 : Option V, σ = [some (.ref S), some (.ref F), some (.int 0), some (.int 0), some (.int (h : Int)), some (.ref G), some (.ref Sd), y7, y8, y9, y10, some (.ref G2), y12, y13, none, none]) ∧
          H7 Lp = some (.lst ((ds.take h).map V.ref)) ∧ ∃ gs : List Addr, H7 G2 = some (.lst (gs.map V.ref)) ∧ gs.length = i + 1 ∧ ∀ (j : Nat) (d : Addr), gs[j]? = some d → H7 d = some (.dT (layK (gd f rs h (h - j)))))
        ⟨s45.trans s56, ⟨y9, y10, none, none, rfl⟩, hLp6, [dh], s56 _ _ hG25, rfl, fun j d e => ?_⟩ (fun i σ H7 h7 => sqL h7.2.2.1) ?_ ?_
      · have ej : j = 0 := by
          have := (List.getElem?_eq_some_iff.mp e).1
          simp at this
          exact this
        subst ej
        have ed : dh = d := by simpa using e
        subst ed
        have eg : gd f rs h (h - 0) = lay f rs h := by
          unfold gd lay
          by_cases c : rs.length = h
          · rw [if_pos c, if_pos (by omega)]
            rfl
          · rw [if_neg c, if_neg (by omega)]
        rw [eg]
        exact s56 _ _ (s45 _ _ hdh4)
      · rintro i x σ H7 li hx ⟨s47, ⟨y9, y10, y12, y13, rfl⟩, hLp7, gs, hG27, lgs, goods⟩
        rw [lxs] at li hx
        obtain ⟨dl, hdl, rfl⟩ := addr_get hx
        have hdl : ds[h - 1 - i]? = some dl := by
          rw [List.getElem?_take] at hdl
          rw [if_pos (by omega)] at hdl
          exact hdl
        generalize hm : h - 1 - i = m at hdl
        obtain ⟨hdl4, dlS, ndlH⟩ := lays m dl hdl
        have hdl7 := s47 _ _ hdl4
        have dlG2 : dl ≠ G2 := ne_of hdl7 hG27 (by intro z; cases z)
        have dlLp : dl ≠ Lp := ne_of hdl7 hLp7 (by intro z; cases z)
        -- found = {}
        intro Fd nFd
        have s78 := same_upd (o := .dT []) nFd
        have hFd8 : upd H7 Fd (.dT []) Fd = some (.dT []) := upd_same
        have dlF : dl ≠ Fd := ne_of_none hdl7 nFd
        have G2F : G2 ≠ Fd := ne_of_none hG27 nFd
        have nFd4 : H4 Fd = none := s47.free nFd
        have goods8 : ∀ (j : Nat) (d : Addr), gs[j]? = some d → upd H7 Fd (.dT []) d = some (.dT (layK (gd f rs h (h - j)))) ∧ d ≠ Fd := fun j d e => ⟨s78 _ _ (goods j d e), ne_of_none (goods j d e) nFd⟩
        have hdl8 := s78 _ _ hdl7
        have hG28 := s78 _ _ hG27
        have hLp8 := s78 _ _ hLp7
        have s48 := s47.trans s78
        generalize upd H7 Fd (.dT []) = H8 at s78 hFd8 goods8 hdl8 hG28 hLp8 s48
        -- for one in layer
        refine ⟨dl, .dT (layK (lay f rs m)), hdl8, True.intro, fun od => ?_⟩
        have hdl9 : upd H8 dl (.frz od (.dT (layK (lay f rs m)))) dl = some (.frz od (.dT (layK (lay f rs m)))) := upd_same
        have o89 : ∀ b o, H8 b = some o → b ≠ dl → upd H8 dl (.frz od (.dT (layK (lay f rs m)))) b = some o := fun b o hb n => by
          rw [upd_ne n]
          exact hb
        have goods9 : ∀ (j : Nat) (d : Addr), gs[j]? = some d → Rd (upd H8 dl (.frz od (.dT (layK (lay f rs m))))) d (.dT (layK (gd f rs h (h - j)))) ∧ d ≠ Fd := fun j d e => ⟨rd_lock hdl8 (goods8 j d e).1, (goods8 j d e).2⟩
        have kq9 : KeepSq G H8 (upd H8 dl (.frz od (.dT (layK (lay f rs m))))) := KeepSq.dT hdl8 _
        have sok9 := (sok.keep (KeepSq.same (G := G) s48)).keep kq9
        have hSd9 := o89 _ _ (s48 _ _ hSd) dlS.symm
        have hFd9 := o89 _ _ hFd8 dlF.symm
        have hG29 := o89 _ _ hG28 dlG2.symm
        generalize upd H8 dl (.frz od (.dT (layK (lay f rs m)))) = H9 at hdl9 o89 goods9 kq9 sok9 hSd9 hFd9 hG29
        refine ⟨_, rfl, dl, od, rfl, .inr ⟨layK (lay f rs m), hdl9, ?_⟩⟩
        refine for_keysT (d := dl) (od := od) (kvs := layK (lay f rs m)) (fun j σ Ha => (∀ b o, H9 b = some o → b ≠ Fd → Ha b = some o) ∧ (∃ y9 : Option V, σ = [some (.ref S), some (.ref F), some (.int 0), some (.int 0), some (.int (h : Int)), some (.ref G), some (.ref Sd), y7, y8, y9, y10, some (.ref G2), some (.ref dl), some (.ref Fd), none, none]) ∧
            ∃ o', Ha Fd = some (.dT (layK o')) ∧ ((j = 0 ∧ o' = none) ∨ (j = 1 ∧ o' = gd f rs h m)))
          ⟨fun b o hb _ => hb, ⟨y9, rfl⟩, none, hFd9, .inl ⟨rfl, rfl⟩⟩ (fun j σ Ha ha => ha.1 _ _ hdl9 dlF) ?_ ?_
        · rintro j k v p σ Ha hk hp ⟨o9a, ⟨y9, rfl⟩, o', hFda, hj⟩
          cases hlay : lay f rs m with
          | none =>
            rw [hlay] at hk
            simp [layK] at hk
          | some fm =>
            rw [hlay] at hk
            have ej : j = 0 := by
              have := (List.getElem?_eq_some_iff.mp hk).1
              simp [layK] at this
              exact this
            subst ej
            have ek : floorK fm = k := by
              simp [layK] at hk
              exact hk.1
            subst ek
            have eo : o' = none := by
              rcases hj with ⟨_, e⟩ | ⟨e, _⟩
              · exact e
              · cases e
            subst eo
            have hpa : TupI Ha p fm := by
              rw [floorK_kV] at hp
              exact hp
            obtain ⟨mle, efm⟩ : m ≤ rs.length ∧ floorAt f rs m = fm := by
              unfold lay at hlay
              by_cases c : m ≤ rs.length
              · rw [if_pos c] at hlay
                exact ⟨c, Option.some.inj hlay⟩
              · rw [if_neg c] at hlay
                cases hlay
            obtain ⟨lfm, _, alt⟩ := _root_.K23.run_at run (i := m) (by omega) mle
            have hasm := seen m (by omega) mle
            rw [efm] at lfm alt hasm
            obtain ⟨v, hv⟩ := Option.isSome_iff_exists.mp hasm
            have kqa : KeepSq G H9 Ha := ⟨fun b xs hb => o9a _ _ hb (ne_of hb hFd9 (by intro z; cases z)), fun b xs hb _ => o9a _ _ hb (ne_of hb hFd9 (by intro z; cases z))⟩
            obtain ⟨l, om, rfl, hl, ng, one⟩ := (sok9.keep kqa) fm v hv
            have hSda : Ha Sd = some (.dT kvs) := o9a _ _ hSd9 (fun z => by
              rw [z] at hSd
              rw [hSd] at nFd4
              cases nFd4)
            have hG2a := o9a _ _ hG29 G2F
            -- the rest: if any(..)
            have fin : ∀ (Hb : Hp), Same Ha Hb → ∀ {D : Ends}, (∀ (Hc : Hp) (o' : Option (List Int)), (∀ b o, H9 b = some o → b ≠ Fd → Hc b = some o) → Hc Fd = some (.dT (layK o')) → o' = gd f rs h m → D.nx [some (.ref S), some (.ref F), some (.int 0), some (.int 0), some (.int (h : Int)), some (.ref G), some (.ref Sd), y7, y8, some (.ref p), y10, some (.ref G2), some (.ref dl), some (.ref Fd), none, none] Hc) →
                (rs.length = h → sDPut (tVar 13) (tVar 9) (tC (.bl true)) D [some (.ref S), some (.ref F), some (.int 0), some (.int 0), some (.int (h : Int)), some (.ref G), some (.ref Sd), y7, y8, some (.ref p), y10, some (.ref G2), some (.ref dl), some (.ref Fd), none, none] Hb) := by
              intro Hb sab D nx full
              refine ⟨_, rfl, _, rfl, Fd, _, rfl, DPut.t (k := floorK fm) (sab _ _ hFda) (TupI.key (sab _ _ hpa)) (lt_line (show 0 ≤ 100000 by decide)), ?_⟩
              refine nx _ (some fm) (fun b o hb n => ?_) upd_same ?_
              · rw [upd_ne n]
                exact sab _ _ (o9a _ _ hb n)
              · unfold gd
                rw [if_pos full, efm]
            obtain ⟨b, eb, hbs⟩ : ∃ xs : List V, Ha l = some (.lst xs) ∧ ((xs = [] ∧ rs.length ≠ h) ∨ ∃ (q : Addr) (r : List T4), xs = [.ref q] ∧ RowAt Ha q r ∧ r.length ≤ 60 ∧ gd f rs h (m + 1) = if rs.length = h then some (r.map T4.n) else none) := by
              rcases alt with ⟨h1, h2⟩ | ⟨r, h1, h2⟩
              · have := one_unique one (show One (fun t => t ∈ ts) 0 0 fm none from h2)
                subst this
                have h3 := List.getElem?_eq_none_iff.mp h1
                exact ⟨[], hl, .inl ⟨rfl, by omega⟩⟩
              · have := one_unique one (show One (fun t => t ∈ ts) 0 0 fm (some r) from h2)
                subst this
                obtain ⟨q, hq, row⟩ := hl
                refine ⟨[.ref q], hq, .inr ⟨q, r, rfl, row, ?_, ?_⟩⟩
                · have := ((h2 r).mpr rfl).length
                  omega
                · unfold gd
                  rw [_root_.K23.floorAt_succ h1]
            refine ⟨_, rfl, _, rfl, Sd, .ref l, rfl, by rw [← hv]; exact dget_rd (.inl hSda) hpa, l, rfl, ⟨_, sqL eb⟩, fun D nD => ?_⟩
            have sD := same_upd (o := .lst []) nD
            refine lc_list (K := K) (a := l) (xs := b) (fun j Hb => Same Ha Hb ∧ Hb D = some (.lst ((List.replicate j (decide (rs.length = h))).map V.bl))) ⟨sD, upd_same⟩ (fun j Hb _ hb => sqL (hb.1 _ _ eb)) (fun j x Hb hx hb => ?_) fun Hb hb => ?_
            · obtain ⟨sab, hDb⟩ := hb
              rcases hbs with ⟨rfl, _⟩ | ⟨q, r, rfl, row, lr, eg⟩
              · simp at hx
              · have ej : j = 0 := by
                  have := (List.getElem?_eq_some_iff.mp hx).1
                  simp at this
                  exact this
                subst ej
                have ex : x = .ref q := by
                  simp at hx
                  exact hx.symm
                subst ex
                refine ⟨rfl, _, rfl, q, r, rfl, row.mono sab, lr, fun Hc N sbc nN hN => ?_⟩
                obtain ⟨dg, hdg⟩ : ∃ d, gs[i]? = some d := ⟨gs[i]'(by omega), List.getElem?_eq_getElem (by omega)⟩
                have egs : gs.map V.ref = (gs.map V.ref).take i ++ [.ref dg] := last_split (by rw [List.length_map]; exact lgs) (by rw [List.getElem?_map, hdg]; rfl)
                obtain ⟨rdg, dgF⟩ := goods9 i dg hdg
                have hi1 : h - i = m + 1 := by omega
                rw [hi1] at rdg
                have rda : Rd Ha dg (.dT (layK (gd f rs h (m + 1)))) := by
                  rcases rdg with rdg | ⟨od', rdg⟩
                  · exact .inl (o9a _ _ rdg dgF)
                  · exact .inr ⟨od', o9a _ _ rdg dgF⟩
                refine ⟨_, rfl, _, rfl, G2, gs.map V.ref, -1, .ref dg, rfl, rfl, sqL (sbc _ _ (sab _ _ hG2a)), by rw [egs]; exact atI_last _ _, dg, _, rfl, dget_rd (Rd.mono (Rd.mono rda sab) sbc) hN, ?_⟩
                refine ⟨_, sbc _ _ hDb, lt_line (show 0 ≤ 100000 by decide), same_over (sab.trans sbc) nD, ?_⟩
                rw [upd_same, layK_has, eg]
                by_cases full : rs.length = h
                · rw [if_pos full, decide_eq_true full, decide_eq_true rfl]
                  rfl
                · rw [if_neg full, decide_eq_false full, decide_eq_false (fun z => by cases z)]
                  rfl
            · obtain ⟨sab, hDb⟩ := hb
              refine ⟨D, _, rfl, sqL hDb, _, rfl, ?_⟩
              have close : ∀ (Hc : Hp) (o' : Option (List Int)), (∀ b o, H9 b = some o → b ≠ Fd → Hc b = some o) → Hc Fd = some (.dT (layK o')) → o' = gd f rs h m → (∀ b o, H9 b = some o → b ≠ Fd → Hc b = some o) ∧ (∃ y9 : Option V, [some (.ref S), some (.ref F), some (.int 0), some (.int 0), some (.int (h : Int)), some (.ref G), some (.ref Sd), y7, y8, some (V.ref p), y10, some (.ref G2), some (.ref dl), some (.ref Fd), none, none] = [some (.ref S), some (.ref F), some (.int 0), some (.int 0), some (.int (h : Int)), some (.ref G), some (.ref Sd), y7, y8, y9, y10, some (.ref G2), some (.ref dl), some (.ref Fd), none, none]) ∧
                  ∃ o', Hc Fd = some (.dT (layK o')) ∧ ((0 + 1 = 0 ∧ o' = none) ∨ (0 + 1 = 1 ∧ o' = gd f rs h m)) := fun Hc o' o9c hFc eo => ⟨o9c, ⟨_, rfl⟩, o', hFc, .inr ⟨rfl, eo⟩⟩
              refine ite2 (fun e => ?_) (fun e => ?_)
              · have full : rs.length = h := by
                  by_cases c : rs.length = h
                  · exact c
                  · rw [decide_eq_false c] at e
                    simp at e
                exact fin Hb sab close full
              · have nf : rs.length ≠ h := by
                  rcases hbs with ⟨_, c⟩ | ⟨q, r, rfl, _⟩
                  · exact c
                  · intro c
                    rw [decide_eq_true c] at e
                    exact e rfl
                refine close Hb none (fun b o hb n => sab _ _ (o9a _ _ hb n)) (sab _ _ hFda) ?_
                unfold gd
                rw [if_neg nf]
        · rintro σ Ha ⟨o9a, ⟨y9, rfl⟩, o', hFda, hj⟩
          have eo : o' = gd f rs h m := by
            cases hlay : lay f rs m with
            | none =>
              rw [hlay] at hj
              have nf : rs.length ≠ h := by
                unfold lay at hlay
                by_cases c : m ≤ rs.length
                · rw [if_pos c] at hlay
                  cases hlay
                · omega
              rcases hj with ⟨_, e⟩ | ⟨e, _⟩
              · rw [e]
                unfold gd
                rw [if_neg nf]
              · cases e
            | some fm =>
              rw [hlay] at hj
              rcases hj with ⟨e, _⟩ | ⟨_, e⟩
              · cases e
              · exact e
          subst eo
          have hdla := o9a _ _ hdl9 dlF
          refine ⟨hdla, ?_⟩
          have oab : ∀ b o, H8 b = some o → b ≠ Fd → upd Ha dl (.dT (layK (lay f rs m))) b = some o := fun b o hb n => by
            by_cases e : b = dl
            · subst e
              rw [hdl8] at hb
              cases hb
              exact upd_same
            · rw [upd_ne e]
              exact o9a _ _ (o89 _ _ hb e) n
          have hFb : upd Ha dl (.dT (layK (lay f rs m))) Fd = some (.dT (layK (gd f rs h m))) := by
            rw [upd_ne dlF.symm]
            exact hFda
          generalize upd Ha dl (.dT (layK (lay f rs m))) = Hb at oab hFb
          have LpF : Lp ≠ Fd := fun z => by
            rw [z, hFd8] at hLp8
            cases hLp8
          have hG2b := oab _ _ hG28 G2F
          -- good.append(found)
          have s4b : Same H4 Hb := fun b o hb => oab _ _ (s48 _ _ hb) (ne_of_none hb nFd4)
          have lgm : (gs.map V.ref).length = i + 1 := by
            rw [List.length_map]
            exact lgs
          refine ⟨_, rfl, .inl ⟨rfl, _, sqL hG2b⟩, _, rfl, G2, _, _, rfl, rfl, hG2b, lt_line (by omega), same_over s4b nG2, ⟨_, _, _, _, rfl⟩, ?_, gs ++ [Fd], by rw [upd_same, List.map_append]; rfl, by rw [List.length_append, lgs]; rfl, fun j d e => ?_⟩
          · rw [upd_ne G2L.symm]
            exact oab _ _ hLp8 LpF
          · by_cases lt : j < gs.length
            · rw [List.getElem?_append_left lt] at e
              obtain ⟨h1, h2⟩ := goods8 j d e
              have := oab _ _ h1 h2
              rw [upd_ne (ne_of this hG2b (by intro z; cases z))]
              exact this
            · rw [List.getElem?_append_right (by omega)] at e
              by_cases e0 : j - gs.length = 0
              · rw [e0] at e
                cases e
                have : h - j = m := by omega
                rw [this, upd_ne G2F.symm]
                exact hFb
              · obtain ⟨k, hk⟩ : ∃ k, j - gs.length = k + 1 := ⟨j - gs.length - 1, by omega⟩
                rw [hk] at e
                cases e
      · rintro σ H7 ⟨s47, ⟨y9, y10, y12, y13, rfl⟩, hLp7, gs, hG27, lgs, goods⟩
        rw [lxs] at lgs
        -- good = good[::-1]
        refine ⟨_, rfl, G2, gs.map V.ref, rfl, sqL hG27, fun R2 nR2 => ?_⟩
        have s78 := same_upd (o := .lst (gs.map V.ref).reverse) nR2
        have hR2 : upd H7 R2 (.lst (gs.map V.ref).reverse) R2 = some (.lst (gs.map V.ref).reverse) := upd_same
        generalize upd H7 R2 (.lst (gs.map V.ref).reverse) = H8 at s78 hR2
        have back : ∀ j, j ≤ h → ∃ d, (gs.map V.ref).reverse[j]? = some (.ref d) ∧ H8 d = some (.dT (layK (gd f rs h j))) := fun j hj => by
          obtain ⟨d, hd⟩ : ∃ d, gs[h - j]? = some d := ⟨gs[h - j]'(by omega), List.getElem?_eq_getElem (by omega)⟩
          refine ⟨d, ?_, ?_⟩
          · rw [List.getElem?_reverse (by rw [List.length_map]; omega), List.length_map]
            have e : gs.length - 1 - j = h - j := by omega
            rw [e, List.getElem?_map, hd]
            rfl
          · have := s78 _ _ (goods _ d hd)
            have e : h - (h - j) = j := by omega
            rw [e] at this
            exact this
        have lback : (gs.map V.ref).reverse.length = h + 1 := by
          rw [List.length_reverse, List.length_map, lgs]
        generalize (gs.map V.ref).reverse = bk at hR2 back lback
        have s48 := s47.trans s78
        have s08 := s04.trans s48
        -- if floor not in good[0]
        obtain ⟨d0, hd0, hd08⟩ := back 0 (Nat.zero_le _)
        refine ⟨_, rfl, _, rfl, R2, bk, 0, .ref d0, rfl, rfl, sqL hR2, atI_nat (j := 0) hd0, d0, _, rfl, dget_rd (.inl hd08) (s08 _ _ hF), _, rfl, ?_⟩
        rw [layK_has]
        by_cases full : rs.length = h
        · have e1 : gd f rs h 0 = some f := by
            unfold gd
            rw [if_pos full]
            rfl
          rw [decide_eq_true e1]
          refine iteF ?_
          -- rows = []
          refine ⟨Nat.zero_le _, fun Rr nRr => ?_⟩
          have s89 := same_upd (o := .lst []) nRr
          have hRr : upd H8 Rr (.lst []) Rr = some (.lst []) := upd_same
          generalize upd H8 Rr (.lst []) = H9 at s89 hRr
          refine ⟨_, rfl, (h : Int), rfl, by omega, by omega, ?_⟩
          refine for_range (lo := 0) (n := h) (fun i σ Ha => Same H8 Ha ∧ (∃ (Fi : Addr) (y9 y10 y15 : Option V), σ = [some (.ref S), some (.ref Fi), some (.int 0), some (.int 0), some (.int (h : Int)), some (.ref G), some (.ref Sd), y7, y8, y9, y10, some (.ref R2), y12, y13, some (.ref Rr), y15] ∧ TupI Ha Fi (floorAt f rs i)) ∧ RowsIn Ha Rr (rs.take i))
            ⟨s89, ⟨F, y9, y10, none, rfl, s89 _ _ (s08 _ _ hF)⟩, [], hRr, rfl, fun j p r e => by simp at e⟩ ?_ ?_
          · rintro i σ Ha hi ⟨s8a, ⟨Fi, y9, y10, y15, rfl, hFi⟩, hin⟩
            have hri : rs[i]? = some (rs[i]'(by omega)) := List.getElem?_eq_getElem (by omega)
            generalize rs[i]'(by omega) = r at hri
            obtain ⟨lfi, _, alt⟩ := _root_.K23.run_at run hi (by omega)
            have one : One (fun t => t ∈ ts) 0 0 (floorAt f rs i) (some r) := by
              rcases alt with ⟨h1, _⟩ | ⟨r', h1, h2⟩
              · rw [hri] at h1
                cases h1
              · rw [hri] at h1
                cases h1
                exact h2
            obtain ⟨v, hv⟩ := Option.isSome_iff_exists.mp (seen i hi (by omega))
            have s4a := s48.trans s8a
            obtain ⟨l, o', rfl, hl, ng, one'⟩ := (sok.keep (KeepSq.same (G := G) s4a)) _ v hv
            have := one_unique one' one
            subst this
            obtain ⟨q, hq, row⟩ := hl
            have lenr : r.length ≤ 60 := by
              have := ((one r).mpr rfl).length
              omega
            obtain ⟨d1, hd1, hd18⟩ := back (i + 1) (by omega)
            have eg : gd f rs h (i + 1) = some (r.map T4.n) := by
              unfold gd
              rw [if_pos full, _root_.K23.floorAt_succ hri]
            rw [eg] at hd18
            -- row = [..][0]
            refine ⟨_, rfl, _, rfl, Sd, .ref l, rfl, by rw [← hv]; exact dget_rd (.inl (s4a _ _ hSd)) hFi, l, rfl, ⟨_, sqL hq⟩, fun D nD => ?_⟩
            have sD := same_upd (o := .lst []) nD
            refine lc_list (K := K) (a := l) (xs := [.ref q]) (fun j Hb => Same Ha Hb ∧ Hb D = some (.lst ([V.ref q].take j))) ⟨sD, upd_same⟩ (fun j Hb _ hb => sqL (hb.1 _ _ hq)) (fun j x Hb hx hb => ?_) fun Hb hb => ?_
            · obtain ⟨sab, hDb⟩ := hb
              have ej : j = 0 := by
                have := (List.getElem?_eq_some_iff.mp hx).1
                simp at this
                exact this
              subst ej
              have ex : x = .ref q := by
                simp at hx
                exact hx.symm
              subst ex
              refine ⟨rfl, _, rfl, q, r, rfl, row.mono sab, lenr, fun Hc N sbc nN hN => ?_⟩
              have sac := sab.trans sbc
              have s8c := s8a.trans sac
              refine ⟨_, rfl, _, rfl, _, _, rfl, rfl, R2, bk, _, .ref d1, rfl, rfl, sqL (s8c _ _ hR2), at_of (j := i + 1) (by omega) hd1, d1, _, rfl, dget_rd (.inl (s8c _ _ hd18)) hN, _, rfl, ?_⟩
              rw [layK_has, decide_eq_true rfl]
              refine iteT ?_
              exact ⟨_, rfl, _, sbc _ _ hDb, lt_line (show 0 ≤ 100000 by decide), same_over sac nD, upd_same⟩
            · obtain ⟨sab, hDb⟩ := hb
              refine ⟨D, _, 0, .ref q, rfl, rfl, sqL hDb, atI_nat (j := 0) rfl, ?_⟩
              -- rows.append(row)
              have hinb := hin.mono sab
              obtain ⟨ps, hRb, _⟩ := id hinb
              have s8b := s8a.trans sab
              obtain ⟨hin2, la⟩ := hinb.snoc (row.mono sab) hRb
              have kq : KeepSq Rr Hb (upd Hb Rr (.lst (ps.map V.ref ++ [.ref q]))) := KeepSq.lst hRb _
              have s8c : Same H8 (upd Hb Rr (.lst (ps.map V.ref ++ [.ref q]))) := same_over s8b nRr
              refine ⟨_, rfl, .inl ⟨rfl, _, sqL hRb⟩, _, rfl, Rr, _, _, rfl, rfl, hRb, ?_, ?_⟩
              · rw [la, List.length_take]
                exact lt_line (by omega)
              · refine ⟨_, rfl, q, r, rfl, (row.mono sab).keep kq, lenr, fun Hd N sd nN hN => ⟨s8c.trans sd, ⟨N, _, _, _, rfl, ?_⟩, ?_⟩⟩
                · rw [_root_.K23.floorAt_succ hri]
                  exact hN
                · rw [← take_snoc hri]
                  exact hin2.mono sd
          · rintro σ Ha ⟨s8a, ⟨Fi, y9, y10, y15, rfl, hFi⟩, hin⟩
            have e2 : rs.take h = rs := List.take_of_length_le (by omega)
            rw [e2] at hin
            exact ⟨_, rfl, (q Ha (s08.trans s8a)).2 Rr full hin⟩
        · have e1 : gd f rs h 0 = none := by
            unfold gd
            rw [if_neg full]
          rw [e1, decide_eq_false (fun z => by cases z)]
          refine iteT ?_
          exact (q H8 s08).1 full
end
end L2.K23
set_option Elab.async false
set_option linter.all false
set_option maxRecDepth 100000
set_option maxHeartbeats 4000000
/-! The law's own defs: _law_cell, _law_mixed, _law_digits, _law_letter. -/
namespace L2.K23
open PySem PySem.Spec PyProof.Rows
open _root_.K23 (T4 Mach Cfg)
section
variable {P : Program} {w : World} {K : PySem.W.Frag} {mg : Str → Option Value} {base : Heap} {C CT CS CL : Addr}
/-! ### _law_cell -/
theorem scLawCell : FnScope ["_law_script", "_law_k"] ["_law_script", "_law_k"] (defScope sLawCell) := ⟨rfl, rfl, rfl, by decide +kernel, rfl, by decide +kernel, by decide +kernel⟩
def spLawCell (K : PySem.W.Frag) : Sp := fun vs H Q _ => ∃ (p : Addr) (ns : List Int) (k : Nat), vs = [.ref p, .int (k : Int)] ∧ SqL K H p (ns.map V.int) ∧ ∀ i : Int, Q (.int i) H
theorem ok_lawCell {f : Addr} {fd : FuncData} {k : Nat} (F : Fun K "_law_cell" "_law_cell" sLawCell f fd) (B : Bi mg) : FnOk P w K mg base CX0 (k + 1) f fd ["_law_script", "_law_k"] (spLawCell K) := by
  refine F.ok scLawCell (fun vs H Q E h => ?_) (fun cdv A outer s H vs Q E hr h => ?_)
  · obtain ⟨p, ns, k, rfl, _⟩ := h
    rfl
  · obtain ⟨p, ns, k, rfl, hp, q⟩ := h
    refine ⟨_, pss_cons (ps_if (pt_cmpR op_lt (pv 1) (pe_callB call_len_seq (by rfl) B.len PySem.boot_len (pa_cons (pv 0) pa_nil)) (nomark _)) (pss_one (ps_ret (pe_ix (ix_listK K) (pv 0) (pv 1) (fun _ _ => rfl)))) pss_nil)
      (pss_one (ps_ret pe_int)), ?_⟩
    refine ⟨_, rfl, _, rfl, p, _, rfl, .inl hp, _, _, rfl, rfl, _, rfl, ?_⟩
    refine ite2 (fun e => ?_) (fun e => ?_)
    · have lt : k < ns.length := by
        have := of_decide_eq_true e
        rw [List.length_map] at this
        omega
      exact ⟨_, rfl, _, rfl, p, _, _, .int ns[k], rfl, rfl, hp, ints_at (List.getElem?_eq_getElem lt), q _⟩
    · exact q 0
/-! ### _law_mixed -/
theorem scLawMixed : FnScope ["_law_cell_here", "_law_k", "_law_first", "_law_second"] ["_law_cell_here", "_law_k"] (defScope sLawMixed) := ⟨rfl, rfl, rfl, by decide +kernel, rfl, by decide +kernel, by decide +kernel⟩
def spLawMixed : Sp := fun vs H Q _ => ∃ c k : Int, vs = [.int c, .int k] ∧ ∀ r : Int, 0 ≤ r → Q (.int r) H
theorem ok_lawMixed {f : Addr} {fd : FuncData} {k : Nat} (F : Fun K "_law_mixed" "_law_mixed" sLawMixed f fd) (B : Bi mg) : FnOk P w K mg base CX0 (k + 1) f fd ["_law_cell_here", "_law_k"] spLawMixed := by
  refine F.ok scLawMixed (fun vs H Q E h => ?_) (fun cdv A outer s H vs Q E hr h => ?_)
  · obtain ⟨c, k, rfl, _⟩ := h
    rfl
  · obtain ⟨c, k, rfl, q⟩ := h
    refine ⟨_, pss_cons (ps_set (i := 2) scLawMixed.nd rfl (Or.inl rfl) (pe_op op_mod (pe_callTy call_int1 (by rfl) B.int boot_int (pa_cons (pe_op op_add (pe_op op_add (pe_op op_mul (pe_callTy call_int1 (by rfl) B.int boot_int (pa_cons (pv 0) pa_nil)) pe_int) (pe_op op_mul (pv 1) pe_int)) pe_int) pa_nil)) pe_int))
      (pss_cons (ps_set (i := 3) scLawMixed.nd rfl (Or.inl rfl) (pe_op op_mod (pe_callTy call_int1 (by rfl) B.int boot_int (pa_cons (pe_op op_add (pe_op op_add (pe_op op_mul (pv 2) pe_int) (pe_op op_mul (pe_op op_add (pv 1) pe_int) pe_int)) pe_int) pa_nil)) pe_int))
      (pss_one (ps_ret (pe_op op_fdiv (pv 3) pe_int)))), ?_⟩
    refine ⟨_, rfl, .inl ⟨_, rfl, ?_⟩⟩
    refine ⟨_, _, rfl, rfl, .inr ⟨by decide, by decide⟩, _, rfl, _, _, rfl, rfl, .inr ⟨by decide, by decide⟩, _, _, rfl, rfl, _, _, rfl, rfl, .inl ⟨_, rfl, _, _, rfl, rfl, (show (0 : Int) < 2147483647 by decide), ?_⟩⟩
    refine ⟨_, rfl, _, _, rfl, rfl, .inr ⟨by decide, by decide⟩, _, rfl, _, _, rfl, rfl, _, _, rfl, rfl, .inr ⟨by decide, by decide⟩, _, _, rfl, rfl, _, _, rfl, rfl, .inl ⟨_, rfl, _, _, rfl, rfl, (show (0 : Int) < 2147483563 by decide), ?_⟩⟩
    refine ⟨_, rfl, _, _, rfl, rfl, ⟨by decide, by decide⟩, q _ ?_⟩
    exact Int.ediv_nonneg (Int.emod_nonneg _ (by decide)) (by decide)
/-! ### _law_digits -/
theorem scLawDigits : FnScope ["_law_cell_here", "_law_count", "_law_many", "_law_digits_here", "_law_k"] ["_law_cell_here", "_law_count", "_law_many"] (defScope sLawDigits) := ⟨rfl, rfl, rfl, by decide +kernel, rfl, by decide +kernel, by decide +kernel⟩
def spLawDigits : Sp := fun vs H Q _ => ∃ (c : Int) (n : Nat), vs = [.int c, .int (n : Int), .int 840] ∧ n ≤ 100 ∧ ∀ H' D (ds : List Int), Same H H' → LstI H' D ds → ds.length = n → (∀ d ∈ ds, 0 ≤ d ∧ d < 840) → Q (.ref D) H'
theorem ok_lawDigits {f : Addr} {fd : FuncData} (F : Fun K "_law_digits" "_law_digits" sLawDigits f fd) (B : Bi mg) (cM : C8.Cal P w K mg base 1 "_law_mixed" spLawMixed []) : FnOk P w K mg base CX0 2 f fd ["_law_cell_here", "_law_count", "_law_many"] spLawDigits := by
  refine F.ok scLawDigits (fun vs H Q E h => ?_) (fun cdv A outer s H vs Q E hr h => ?_)
  · obtain ⟨c, n, rfl, _⟩ := h
    rfl
  · obtain ⟨c, n, rfl, hn, q⟩ := h
    refine ⟨_, pss_cons (ps_set (i := 3) scLawDigits.nd rfl (Or.inl rfl) (pe_lst pa_nil))
      (pss_cons (ps_if (pt_cmpR op_lt (pv 0) (pe_op op_pow pe_int pe_int) (nomark _))
        (pss_cons (ps_for PassesOwn.never rfl (pi_range1 (by rfl) B.range (pa_cons (pv 1) pa_nil)) (pg_name (i := 4) scLawDigits.nd rfl (Or.inl rfl))
          (pss_one (ps_expr (pe_bm PySem.F.plainAttrs_list PySem.F.slot_list_append PySem.F.type_list_append mt_append (pv 3) (pa_cons (pe_op op_mod (pe_callTy call_int1 (by rfl) B.int boot_int (pa_cons (C8.pe_c cM hr (by decide) (by rfl) (pa_cons (pv 0) (pa_cons (pv 4) pa_nil))) pa_nil)) (pv 2)) pa_nil)))))
        (pss_one (ps_ret (pv 3)))) pss_nil)
      (pss_cons (ps_for PassesOwn.never rfl (pi_range1 (by rfl) B.range (pa_cons (pv 1) pa_nil)) (pg_name (i := 4) scLawDigits.nd rfl (Or.inl rfl))
        (pss_cons (ps_expr (pe_bm PySem.F.plainAttrs_list PySem.F.slot_list_append PySem.F.type_list_append mt_append (pv 3) (pa_cons (pe_op op_mod (pe_callTy call_int1 (by rfl) B.int boot_int (pa_cons (pv 0) pa_nil)) (pv 2)) pa_nil)))
        (pss_one (ps_set (i := 0) scLawDigits.nd rfl (Or.inl rfl) (pe_op op_fdiv (pv 0) (pv 2))))))
      (pss_one (ps_ret (pv 3))))), ?_⟩
    refine ⟨Nat.zero_le _, fun D nD => ?_⟩
    have s1 := same_upd (o := .lst []) nD
    have hD1 : upd H D (.lst []) D = some (.lst []) := upd_same
    generalize upd H D (.lst []) = H1 at s1 hD1
    refine ⟨_, rfl, _, _, rfl, rfl, ⟨by decide, by decide, by decide⟩, _, _, rfl, rfl, _, rfl, ?_⟩
    have snoc : ∀ {H2 : Hp} {ds : List Int} {d : Int}, Same H H2 → H2 D = some (.lst (ds.map V.int)) → Same H (upd H2 D (.lst (ds.map V.int ++ [.int d]))) ∧ LstI (upd H2 D (.lst (ds.map V.int ++ [.int d]))) D (ds ++ [d]) := fun {H2 ds d} s2 h2 => ⟨same_over s2 nD, by
      show upd H2 D _ D = some (.lst ((ds ++ [d]).map V.int))
      rw [upd_same, List.map_append]
      rfl⟩
    have bnd : ∀ {ds : List Int} {z : Int}, (∀ d ∈ ds, 0 ≤ d ∧ d < 840) → ∀ d ∈ ds ++ [z % 840], 0 ≤ d ∧ d < 840 := fun {ds z} h d hd => by
      rcases List.mem_append.mp hd with hd | hd
      · exact h d hd
      · rw [List.mem_singleton.mp hd]
        exact ⟨Int.emod_nonneg _ (by decide), Int.emod_lt_of_pos _ (by decide)⟩
    refine ite2 (fun e => ?_) (fun e => ?_)
    · refine ⟨_, rfl, (n : Int), rfl, by omega, by omega, ?_⟩
      refine for_range (lo := 0) (n := n) (fun i σ H2 => Same H H2 ∧ (∃ y, σ = [some (.int c), some (.int (n : Int)), some (.int 840), some (.ref D), y]) ∧ ∃ ds : List Int, LstI H2 D ds ∧ ds.length = i ∧ ∀ d ∈ ds, 0 ≤ d ∧ d < 840) ⟨s1, ⟨none, rfl⟩, [], hD1, rfl, fun d hd => by cases hd⟩ ?_ ?_
      · rintro i σ H2 hi ⟨s2, ⟨y, rfl⟩, ds, hD2, lds, bd⟩
        refine ⟨_, rfl, .inl ⟨rfl, _, hD2.sq⟩, _, rfl, _, rfl, _, _, rfl, fun r r0 => .inl ⟨_, rfl, _, rfl, _, _, rfl, rfl, (show (0 : Int) < 840 by decide), ?_⟩⟩
        have lm : (ds.map V.int).length = i := by rw [List.length_map]; exact lds
        refine ⟨D, _, _, rfl, rfl, hD2, lt_line (by omega), (snoc s2 hD2).1, ⟨_, rfl⟩, _, (snoc s2 hD2).2, by rw [List.length_append, lds]; rfl, bnd bd⟩
      · rintro σ H2 ⟨s2, ⟨y, rfl⟩, ds, hD2, lds, bd⟩
        exact ⟨_, rfl, q H2 D ds s2 hD2 lds bd⟩
    · refine ⟨_, rfl, (n : Int), rfl, by omega, by omega, ?_⟩
      refine for_range (lo := 0) (n := n) (fun i σ H2 => Same H H2 ∧ (∃ c y, σ = [some (.int c), some (.int (n : Int)), some (.int 840), some (.ref D), y]) ∧ ∃ ds : List Int, LstI H2 D ds ∧ ds.length = i ∧ ∀ d ∈ ds, 0 ≤ d ∧ d < 840) ⟨s1, ⟨_, none, rfl⟩, [], hD1, rfl, fun d hd => by cases hd⟩ ?_ ?_
      · rintro i σ H2 hi ⟨s2, ⟨c, y, rfl⟩, ds, hD2, lds, bd⟩
        refine ⟨_, rfl, .inl ⟨rfl, _, hD2.sq⟩, _, rfl, .inl ⟨_, rfl, _, rfl, _, _, rfl, rfl, (show (0 : Int) < 840 by decide), ?_⟩⟩
        have lm : (ds.map V.int).length = i := by rw [List.length_map]; exact lds
        refine ⟨D, _, _, rfl, rfl, hD2, lt_line (by omega), ?_⟩
        refine ⟨_, rfl, _, rfl, _, _, rfl, rfl, ⟨by decide, by decide⟩, (snoc s2 hD2).1, ⟨_, _, rfl⟩, _, (snoc s2 hD2).2, by rw [List.length_append, lds]; rfl, bnd bd⟩
      · rintro σ H2 ⟨s2, ⟨c, y, rfl⟩, ds, hD2, lds, bd⟩
        exact ⟨_, rfl, q H2 D ds s2 hD2 lds bd⟩
/-! ### _law_letter -/
theorem scLawLetter : FnScope ["_law_machine", "_law_mark", "_law_state"] ["_law_machine", "_law_mark", "_law_state"] (defScope sLawLetter) := ⟨rfl, rfl, rfl, by decide +kernel, rfl, by decide +kernel, by decide +kernel⟩
def spLawLetter (C : Addr) : Sp := fun vs H Q _ => ∃ (T : Addr) (m st a q : Int) (rs : List Row3), vs = [.ref T, .int a, .int q] ∧ TapeAt C H T m st rs ∧ 2 ≤ m ∧ m ≤ 5 ∧ Q (.int (m * (q + 1) + a)) H
theorem ok_lawLetter {f : Addr} {fd : FuncData} {k : Nat} (F : Fun K "_law_letter" "_law_letter" sLawLetter f fd) (T : TapeTxt K C) : FnOk P w K mg base CX0 (k + 1) f fd ["_law_machine", "_law_mark", "_law_state"] (spLawLetter C) := by
  refine F.ok scLawLetter (fun vs H Q E h => ?_) (fun cdv A outer s H vs Q E hr h => ?_)
  · obtain ⟨t, m, st, a, q, rs, rfl, _⟩ := h
    rfl
  · obtain ⟨t, m, st, a, q, rs, rfl, ⟨dx, l, xs, h1, h2, h3⟩, m2, m5, hq⟩ := h
    refine ⟨_, pss_one (ps_ret (pe_op op_add (pe_op op_mul (pe_fld (pv 0) rfl) (pe_op op_add (pv 2) pe_int)) (pv 1))), ?_⟩
    exact ⟨_, rfl, t, C, dx, _, _, rfl, h1, T.cl, T.nM, by rfl, _, rfl, _, _, rfl, rfl, _, _, rfl, rfl, .inl ⟨by omega, by omega⟩, _, rfl, _, _, rfl, rfl, hq⟩
end
end L2.K23
set_option Elab.async false
set_option linter.all false
set_option maxRecDepth 100000
set_option maxHeartbeats 4000000
/-! The law's own defs: _law_tape. -/
namespace L2.K23
open PySem PySem.Spec PyProof.Rows
open _root_.K23 (T4 Mach Cfg)
theorem RowsOf.snoc {H : Hp} {xs : List V} {rs : List Row3} {v : V} {r : Row3} (h : RowsOf H xs rs) (hv : RowV H v r) : RowsOf H (xs ++ [v]) (rs ++ [r]) := by
  refine ⟨by rw [List.length_append, List.length_append, h.len]; rfl, fun i r' e => ?_⟩
  have hl := h.len
  by_cases lt : i < rs.length
  · rw [List.getElem?_append_left lt] at e
    rw [List.getElem?_append_left (by omega)]
    exact h.at_ i r' e
  · rw [List.getElem?_append_right (by omega)] at e
    rw [List.getElem?_append_right (by omega), hl]
    by_cases e0 : i - rs.length = 0
    · rw [e0] at e ⊢
      cases e
      exact ⟨v, rfl, hv⟩
    · obtain ⟨j, hj⟩ : ∃ j, i - rs.length = j + 1 := ⟨i - rs.length - 1, by omega⟩
      rw [hj] at e
      cases e
section
variable {P : Program} {w : World} {K : PySem.W.Frag} {mg : Str → Option Value} {base : Heap} {C CT CS CL : Addr}
theorem scLawTape : FnScope ["_law_numbers", "_law_most_marks", "_law_most_states", "_law_marks", "_law_states", "_law_rows", "_law_k", "_law_digit", "_law_move"] ["_law_numbers", "_law_most_marks", "_law_most_states"] (defScope sLawTape) := ⟨rfl, rfl, rfl, by decide +kernel, rfl, by decide +kernel, by decide +kernel⟩
def spLawTape (CT : Addr) : Sp := fun vs H Q _ => ∃ (p : Addr) (ds : List Int), vs = [.ref p, .int 5, .int 4] ∧ LstI H p ds ∧ ds.length = 38 ∧ (∀ d ∈ ds, 0 ≤ d ∧ d < 840) ∧ ∀ H' T m st rs, Same H H' → TapeAt CT H' T m st rs → Nums m st rs → Q (.ref T) H'
theorem ok_lawTape {f : Addr} {fd : FuncData} (F : Fun K "_law_tape" "_law_tape" sLawTape f fd) (B : Bi mg) (mT : C8.Mak P w K mg base 3 "Tape" CT (spTapeInit CT) []) : FnOk P w K mg base CX0 5 f fd ["_law_numbers", "_law_most_marks", "_law_most_states"] (spLawTape CT) := by
  refine F.ok scLawTape (fun vs H Q E h => ?_) (fun cdv A outer s H vs Q E hr h => ?_)
  · obtain ⟨p, ds, rfl, _⟩ := h
    rfl
  · obtain ⟨p, ds, rfl, hp, len, bd, q⟩ := h
    have num : ∀ j, j < 38 → ∃ d, (ds.map V.int)[j]? = some (.int d) ∧ 0 ≤ d ∧ d < 840 := fun j hj => by
      have e : ds[j]? = some (ds[j]'(by omega)) := List.getElem?_eq_getElem (by omega)
      exact ⟨ds[j]'(by omega), by simp [e], bd _ (List.getElem_mem _)⟩
    refine ⟨_, pss_cons (ps_set (i := 3) scLawTape.nd rfl (Or.inl rfl) (pe_op op_add pe_int (pe_op op_mod (pe_ix (ix_listK K) (pv 0) pe_int (fun _ _ => rfl)) (pe_op op_sub (pv 1) pe_int))))
      (pss_cons (ps_set (i := 4) scLawTape.nd rfl (Or.inl rfl) (pe_op op_add pe_int (pe_op op_mod (pe_ix (ix_listK K) (pv 0) pe_int (fun _ _ => rfl)) (pv 2))))
      (pss_cons (ps_set (i := 5) scLawTape.nd rfl (Or.inl rfl) (pe_lst pa_nil))
      (pss_cons (ps_for PassesOwn.never rfl (pi_range1 (by rfl) B.range (pa_cons (pe_op op_mul (pv 3) (pv 4)) pa_nil)) (pg_name (i := 6) scLawTape.nd rfl (Or.inl rfl))
        (pss_cons (ps_set (i := 7) scLawTape.nd rfl (Or.inl rfl) (pe_op op_add (pe_ix (ix_listK K) (pv 0) (pe_op op_add pe_int (pe_op op_mul pe_int (pe_op op_mod (pe_callTy call_int1 (by rfl) B.int boot_int (pa_cons (pv 6) pa_nil)) pe_int))) (fun _ _ => rfl)) (pe_op op_mul pe_int (pe_op op_fdiv (pv 6) pe_int))))
        (pss_one (ps_if (pt_cmpR op_eq (pe_op op_mod (pv 7) pe_int) pe_int (nomark _))
          (pss_one (ps_expr (pe_bm PySem.F.plainAttrs_list PySem.F.slot_list_append PySem.F.type_list_append mt_append (pv 5) (pa_cons pe_non pa_nil))))
          (pss_cons (ps_set (i := 8) scLawTape.nd rfl (Or.inl rfl) (pe_op op_sub (pe_op op_mul pe_int (pe_op op_mod (pe_op op_fdiv (pe_ix (ix_listK K) (pv 0) (pe_op op_add pe_int (pe_op op_mul pe_int (pe_op op_mod (pe_callTy call_int1 (by rfl) B.int boot_int (pa_cons (pv 6) pa_nil)) pe_int))) (fun _ _ => rfl)) pe_int) pe_int)) pe_int))
          (pss_one (ps_expr (pe_bm PySem.F.plainAttrs_list PySem.F.slot_list_append PySem.F.type_list_append mt_append (pv 5) (pa_cons (pe_tup (pa_cons (pe_op op_mod (pe_op op_fdiv (pv 7) pe_int) (pv 3)) (pa_cons (pv 8) (pa_cons
            (pe_op op_mod (pe_callTy call_int1 (by rfl) B.int boot_int (pa_cons (pe_op op_add (pe_ix (ix_listK K) (pv 0) (pe_op op_add pe_int (pe_op op_mul pe_int (pe_op op_mod (pe_callTy call_int1 (by rfl) B.int boot_int (pa_cons (pv 6) pa_nil)) pe_int))) (fun _ _ => rfl)) (pe_op op_fdiv (pv 6) pe_int)) pa_nil)) (pv 4)) pa_nil)))) pa_nil)))))))))
      (pss_one (ps_ret (C8.pe_mk mT hr (by decide) (by rfl) (pa_cons (pv 3) (pa_cons (pv 4) (pa_cons (pv 5) pa_nil))))))))), ?_⟩
    obtain ⟨d0, e0, d00, d01⟩ := num 0 (by decide)
    obtain ⟨d1, e1, d10, d11⟩ := num 1 (by decide)
    refine ⟨_, rfl, p, _, 0, .int d0, rfl, rfl, hp.sq, atI_nat (j := 0) e0, _, rfl, _, _, rfl, rfl, _, _, rfl, rfl, (show (0 : Int) < 5 - 1 by decide), _, _, rfl, rfl, ?_⟩
    refine ⟨_, rfl, p, _, 1, .int d1, rfl, rfl, hp.sq, atI_nat (j := 1) e1, _, rfl, _, _, rfl, rfl, (show (0 : Int) < 4 by decide), _, _, rfl, rfl, ?_⟩
    have hm : 2 ≤ 2 + d0 % (5 - 1) ∧ 2 + d0 % (5 - 1) ≤ 5 := by omega
    have hst : 1 ≤ 1 + d1 % 4 ∧ 1 + d1 % 4 ≤ 4 := by omega
    obtain ⟨m, em⟩ : ∃ m, m = 2 + d0 % (5 - 1) := ⟨_, rfl⟩
    obtain ⟨st, est⟩ : ∃ st, st = 1 + d1 % 4 := ⟨_, rfl⟩
    rw [← em] at hm
    rw [← est] at hst
    obtain ⟨m2, m5⟩ := hm
    obtain ⟨s1, s4⟩ := hst
    refine ⟨Nat.zero_le _, fun R nR => ?_⟩
    have sR := same_upd (o := .lst []) nR
    have hR0 : upd H R (.lst []) R = some (.lst []) := upd_same
    generalize upd H R (.lst []) = H1 at sR hR0
    have p0 : 0 ≤ m * st := Int.mul_nonneg (by omega) (by omega)
    have p20 : m * st ≤ 5 * 4 := Int.mul_le_mul m5 s4 (by omega) (by omega)
    obtain ⟨N, hN⟩ : ∃ N : Nat, m * st = (N : Int) := ⟨(m * st).toNat, by omega⟩
    refine ⟨_, rfl, _, rfl, _, _, rfl, rfl, .inl ⟨by omega, by omega⟩, ?_⟩
    refine ⟨(N : Int), ?_, by omega, by omega, ?_⟩
    · show [V.int ((2 + d0 % (5 - 1)) * (1 + d1 % 4))] = _
      rw [← em, ← est, hN]
    refine for_range (lo := 0) (n := N) (fun i σ H2 => Same H H2 ∧ (∃ y6 y7 y8, σ = [some (.ref p), some (.int 5), some (.int 4), some (.int m), some (.int st), some (.ref R), y6, y7, y8]) ∧ ∃ (xs : List V) (rs : List Row3), H2 R = some (.lst xs) ∧ RowsOf H2 xs rs ∧ rs.length = i ∧ ∀ r ∈ rs, RowOk m st r)
      ⟨sR, ⟨none, none, none, by rw [em, est]; rfl⟩, [], [], hR0, ⟨rfl, fun i r e => by simp at e⟩, rfl, fun r hr => by cases hr⟩ ?_ ?_
    · rintro i σ H2 hi ⟨s2, ⟨y6, y7, y8, rfl⟩, xs, rs, hR, ro, lrs, ok⟩
      obtain ⟨d2, e2, d20, d21⟩ := num (2 + 3 * (i % 12)) (by omega)
      obtain ⟨d3, e3, d30, d31⟩ := num (3 + 3 * (i % 12)) (by omega)
      obtain ⟨d4, e4, d40, d41⟩ := num (4 + 3 * (i % 12)) (by omega)
      have hp : LstI H2 p ds := s2 _ _ hp
      have lxs : xs.length = i := by rw [ro.len]; exact lrs
      have add : ∀ {H3 : Hp} {v : V} {r : Row3}, Same H H3 → H3 R = some (.lst xs) → RowsOf H3 xs rs → RowV H3 v r → RowOk m st r → Same H (upd H3 R (.lst (xs ++ [v]))) ∧ ∃ (xs' : List V) (rs' : List Row3), upd H3 R (.lst (xs ++ [v])) R = some (.lst xs') ∧ RowsOf (upd H3 R (.lst (xs ++ [v]))) xs' rs' ∧ rs'.length = i + 1 ∧ ∀ r ∈ rs', RowOk m st r := fun {H3 v r} s3 h3 ro3 hv hok => by
        have k : ∀ b ys, H3 b = some (.tup ys) → upd H3 R (.lst (xs ++ [v])) b = some (.tup ys) := fun b ys hb => by
          rw [upd_ne (ne_of hb h3 (by intro z; cases z))]
          exact hb
        refine ⟨same_over s3 nR, _, rs ++ [r], upd_same, (ro3.mono k).snoc (hv.mono k), by rw [List.length_append, lrs]; rfl, fun r' hr' => ?_⟩
        rcases List.mem_append.mp hr' with h | h
        · exact ok _ h
        · rw [List.mem_singleton.mp h]
          exact hok
      -- digit
      refine ⟨_, rfl, _, rfl, .inl ⟨_, rfl, _, _, rfl, rfl, (show (0 : Int) < 12 by decide), _, _, rfl, rfl, .inl ⟨by decide, by decide⟩, _, _, rfl, rfl, p, _, _, .int d2, rfl, rfl, hp.sq, at_of (j := 2 + 3 * (i % 12)) (by omega) e2, _, rfl, _, _, rfl, rfl, ⟨by decide, by decide⟩, _, _, rfl, rfl, .inl ⟨by decide, by decide⟩, _, _, rfl, rfl, ?_⟩⟩
      have hdg : 0 ≤ d2 + 7 * ((0 + (i : Int)) / 12) := by omega
      refine ⟨_, rfl, _, _, rfl, rfl, (show (0 : Int) < 5 by decide), rfl, _, rfl, ?_⟩
      refine ite2 (fun e => ?_) (fun e => ?_)
      · have := add (v := .non) (r := none) s2 hR ro rfl True.intro
        exact ⟨_, rfl, .inl ⟨rfl, _, sqL hR⟩, R, _, _, rfl, rfl, hR, lt_line (by omega), this.1, ⟨_, _, _, rfl⟩, this.2⟩
      · refine ⟨_, rfl, _, rfl, .inl ⟨_, rfl, _, _, rfl, rfl, (show (0 : Int) < 12 by decide), _, _, rfl, rfl, .inl ⟨by decide, by decide⟩, _, _, rfl, rfl, p, _, _, .int d3, rfl, rfl, hp.sq, at_of (j := 3 + 3 * (i % 12)) (by omega) e3, _, _, rfl, rfl, ⟨by decide, by decide⟩, _, _, rfl, rfl, (show (0 : Int) < 2 by decide), _, _, rfl, rfl, .inl ⟨by decide, by decide⟩, _, _, rfl, rfl, ?_⟩⟩
        have hmv : 2 * (d3 / 3 % 2) - 1 = 1 ∨ 2 * (d3 / 3 % 2) - 1 = -1 := by omega
        refine ⟨_, rfl, .inl ⟨rfl, _, sqL hR⟩, _, rfl, _, _, rfl, rfl, ⟨by decide, by decide⟩, _, rfl, _, _, rfl, rfl, (show 0 < m by omega), _, rfl, _, rfl, _, rfl, .inl ⟨_, rfl, _, _, rfl, rfl, (show (0 : Int) < 12 by decide), _, _, rfl, rfl, .inl ⟨by decide, by decide⟩, _, _, rfl, rfl, p, _, _, .int d4, rfl, rfl, hp.sq, at_of (j := 4 + 3 * (i % 12)) (by omega) e4, _, rfl, _, _, rfl, rfl, ⟨by decide, by decide⟩, _, _, rfl, rfl, .inl ⟨_, rfl, _, rfl, _, _, rfl, rfl, (show 0 < st by omega), le_line (show 3 ≤ 100000 by decide), fun t nt => ?_⟩⟩⟩
        have st2 := same_upd (o := .tup [.int ((d2 + 7 * ((0 + (i : Int)) / 12)) / 5 % m), .int (2 * (d3 / 3 % 2) - 1), .int ((d4 + (0 + (i : Int)) / 12) % st)]) nt
        have := add (v := .ref t) (r := some ((d2 + 7 * ((0 + (i : Int)) / 12)) / 5 % m, 2 * (d3 / 3 % 2) - 1, (d4 + (0 + (i : Int)) / 12) % st)) (s2.trans st2) (st2 _ _ hR) (ro.mono fun b ys hb => st2 _ _ hb) ⟨t, rfl, upd_same⟩
          ⟨Int.emod_nonneg _ (by omega), Int.emod_lt_of_pos _ (by omega), hmv, Int.emod_nonneg _ (by omega), Int.emod_lt_of_pos _ (by omega)⟩
        exact ⟨R, _, _, rfl, rfl, st2 _ _ hR, lt_line (by omega), this.1, ⟨_, _, _, rfl⟩, this.2⟩
    · rintro σ H2 ⟨s2, ⟨y6, y7, y8, rfl⟩, xs, rs, hR, ro, lrs, ok⟩
      refine ⟨_, rfl, _, rfl, _, rfl, ?_⟩
      intro T dT nT ndT nTd
      have s3 : Same H2 (upd (upd H2 dT (.own T)) T (.ins CT dT [])) := (same_upd ndT).trans (same_upd (by rw [upd_ne nTd.symm]; exact nT))
      have nums : Nums m st rs := ⟨m2, m5, s1, s4, by rw [lrs]; exact hN.symm, ok⟩
      refine ⟨T, dT, R, m, st, xs, rs, rfl, upd_same, s3 _ _ hR, ro.mono fun b ys hb => s3 _ _ hb, nums, fun H4 hT4 k4 => ⟨rfl, ?_⟩⟩
      exact q H4 T m st rs (fun b o hb => k4 b o (s3 _ _ (s2 _ _ hb)) (ne_of_none (s2 _ _ hb) nT)) hT4 nums
end
end L2.K23
set_option Elab.async false
set_option linter.all false
set_option maxRecDepth 100000
set_option maxHeartbeats 4000000
/-! The law's own defs: _law_configuration, _law_next, _law_steps. -/
namespace K23
/-- what the steps keep -/
theorem csteps_ok {M : Mach} (ok : M.Ok) : ∀ (n k : Nat) {c : Cfg}, c.Ok M → c.l.length ≤ k → c.r.length ≤ k → ∀ d ∈ csteps M c n, d.Ok M ∧ d.l.length ≤ k + n ∧ d.r.length ≤ k + n
  | 0, k, c, h, hl, hr, d, hd => by
    have : d = c := by simpa [csteps] using hd
    subst this
    exact ⟨h, hl, hr⟩
  | n + 1, k, c, h, hl, hr, d, hd => by
    unfold csteps at hd
    cases e : cnx M c with
    | none =>
      rw [e] at hd
      have : d = c := by simpa using hd
      subst this
      exact ⟨h, by omega, by omega⟩
    | some c' =>
      rw [e] at hd
      rcases List.mem_cons.mp hd with rfl | hd
      · exact ⟨h, by omega, by omega⟩
      · have len : c'.l.length ≤ k + 1 ∧ c'.r.length ≤ k + 1 := by
          have e := e
          unfold cnx at e
          split at e
          · cases e
          · rename_i w v q' hR
            have t1 := trim_len (w :: c.l)
            have t2 := trim_len (w :: c.r)
            rw [List.length_cons] at t1 t2
            split at e
            · cases e
              refine ⟨by show (trim (w :: c.l)).length ≤ k + 1; omega, ?_⟩
              show c.r.tail.length ≤ k + 1
              rw [List.length_tail]
              omega
            · cases e
              refine ⟨?_, by show (trim (w :: c.r)).length ≤ k + 1; omega⟩
              show c.l.tail.length ≤ k + 1
              rw [List.length_tail]
              omega
        have := csteps_ok ok n (k + 1) (cnx_ok ok h e) len.1 len.2 d hd
        exact ⟨this.1, by omega, by omega⟩
theorem csteps_len (M : Mach) : ∀ (n : Nat) (c : Cfg), (csteps M c n).length ≤ n + 1
  | 0, c => Nat.le_refl _
  | n + 1, c => by
    unfold csteps
    split
    · simp
    · have := csteps_len M n
      simp only [List.length_cons]
      exact Nat.succ_le_succ (this _)
end K23
namespace L2.K23
open PySem PySem.Spec PyProof.Rows
open _root_.K23 (T4 Mach Cfg Plain Trimmed trim strip cnx csteps)
theorem cut_tail (xs : List V) : cutV xs (some 1) none = xs.tail := by
  cases xs with
  | nil => rfl
  | cons x xs =>
    have := cut_drop (x :: xs) (i := 1) (by simp)
    exact this
section
variable {P : Program} {w : World} {K : PySem.W.Frag} {mg : Str → Option Value} {base : Heap} {C CT CS CL : Addr}
/-! ### _law_configuration -/
theorem scLawConf : FnScope ["_law_machine", "_law_cell_here", "_law_digits_here", "_law_left", "_law_right", "_law_one"] ["_law_machine", "_law_cell_here"] (defScope sLawConf) := ⟨rfl, rfl, rfl, by decide +kernel, rfl, by decide +kernel, by decide +kernel⟩
def spLawConf (CT : Addr) : Sp := fun vs H Q _ => ∃ (T : Addr) (cell m st : Int) (rs : List Row3), vs = [.ref T, .int cell] ∧ TapeAt CT H T m st rs ∧ Nums m st rs ∧
  ∀ H' p (c : Cfg), Same H H' → CfgAt H' p c → c.Ok (mach m st rs) → c.l.length ≤ 10 → c.r.length ≤ 10 → Q (.ref p) H'
theorem ok_lawConf {f : Addr} {fd : FuncData} (F : Fun K "_law_configuration" "_law_configuration" sLawConf f fd) (T : TapeTxt K CT) (cD : C8.Cal P w K mg base 2 "_law_digits" spLawDigits []) (cT : C8.Cal P w K mg base 1 "_law_trim" spLawTrim []) :
    FnOk P w K mg base CX0 3 f fd ["_law_machine", "_law_cell_here"] (spLawConf CT) := by
  refine F.ok scLawConf (fun vs H Q E h => ?_) (fun cdv A outer s H vs Q E hr h => ?_)
  · obtain ⟨t, cell, m, st, rs, rfl, _⟩ := h
    rfl
  · obtain ⟨t, cell, m, st, rs, rfl, ht, n, q⟩ := h
    have m2 := n.m2
    have st1 := n.s1
    refine ⟨_, pss_cons (ps_set (i := 2) scLawConf.nd rfl (Or.inl rfl) (C8.pe_c cD hr (by decide) (by rfl) (pa_cons (pv 1) (pa_cons pe_int (pa_cons pe_int pa_nil)))))
      (pss_cons (ps_set (i := 3) scLawConf.nd rfl (Or.inl rfl) (C8.pe_c cT hr (by decide) (by rfl) (pa_cons (pe_lc (own := [("_law_one", 5)]) (g := gName 5) (by rfl) scLawConf.nd
          (pi_list (pe_slice sl_list (pv 2) (po_some pe_int) (po_some (pe_op op_add pe_int (pe_op op_mod (pe_ix (ix_listK K) (pv 2) pe_int (fun _ _ => rfl)) pe_int)))))
          (blkOk_by (N := ["_law_machine", "_law_cell_here", "_law_digits_here", "_law_left", "_law_right", "_law_one"]) (sc := defScope sLawConf) (by decide +kernel))
          (fun _ _ _ _ _ => pg_name (i := 5) scLawConf.nd rfl (Or.inl rfl)) (fun _ _ _ _ _ => pts_nil) (fun _ _ _ _ _ => pe_op op_mod (pv 5) (pe_fldK K (pv 0) rfl))) pa_nil)))
      (pss_cons (ps_set (i := 4) scLawConf.nd rfl (Or.inl rfl) (C8.pe_c cT hr (by decide) (by rfl) (pa_cons (pe_lc (own := [("_law_one", 5)]) (g := gName 5) (by rfl) scLawConf.nd
          (pi_list (pe_slice sl_list (pv 2) (po_some pe_int) (po_some (pe_op op_add pe_int (pe_op op_mod (pe_ix (ix_listK K) (pv 2) pe_int (fun _ _ => rfl)) pe_int)))))
          (blkOk_by (N := ["_law_machine", "_law_cell_here", "_law_digits_here", "_law_left", "_law_right", "_law_one"]) (sc := defScope sLawConf) (by decide +kernel))
          (fun _ _ _ _ _ => pg_name (i := 5) scLawConf.nd rfl (Or.inl rfl)) (fun _ _ _ _ _ => pts_nil) (fun _ _ _ _ _ => pe_op op_mod (pv 5) (pe_fldK K (pv 0) rfl))) pa_nil)))
      (pss_one (ps_ret (pe_tup (pa_cons (pe_op op_mod (pe_ix (ix_listK K) (pv 2) pe_int (fun _ _ => rfl)) (pe_fld (pv 0) rfl)) (pa_cons (pv 3) (pa_cons (pe_op op_mod (pe_op op_fdiv (pe_ix (ix_listK K) (pv 2) pe_int (fun _ _ => rfl)) pe_int) (pe_fld (pv 0) rfl)) (pa_cons (pv 4) pa_nil))))))))), ?_⟩
    refine ⟨_, rfl, cell, 16, rfl, by decide, fun H1 D ds s1 hD len bd => ?_⟩
    have num : ∀ j, j < 16 → ∃ d, (ds.map V.int)[j]? = some (.int d) ∧ 0 ≤ d ∧ d < 840 := fun j hj => by
      have e : ds[j]? = some (ds[j]'(by omega)) := List.getElem?_eq_getElem (by omega)
      exact ⟨ds[j]'(by omega), by simp [e], bd _ (List.getElem_mem _)⟩
    obtain ⟨d0, e0, d00, d01⟩ := num 0 (by decide)
    obtain ⟨d1, e1, d10, d11⟩ := num 1 (by decide)
    obtain ⟨d2, e2, d20, d21⟩ := num 2 (by decide)
    have lds : (ds.map V.int).length = 16 := by rw [List.length_map]; exact len
    obtain ⟨dx, l0, xs0, ht0, _⟩ := id ht
    have s11 : Same H1 H1 := Same.refl H1
    refine ⟨_, rfl, ⟨3, rfl, _, rfl, D, _, 0, .int d0, rfl, rfl, sqL (s11 _ _ hD), atI_nat (j := 0) e0, _, _, rfl, rfl, (show (0 : Int) < 6 by decide), _, _, rfl, rfl, _, rfl, D, _, rfl, sqL (s11 _ _ hD), fun La nLa => ?_⟩⟩
    have sLa := same_upd (o := .lst (cutV (ds.map V.int) (some 3) (some (3 + d0 % 6)))) nLa
    obtain ⟨ka, eka⟩ : ∃ k : Nat, 3 + d0 % 6 = (k : Int) := ⟨(3 + d0 % 6).toNat, by omega⟩
    have ecuta : cutV (ds.map V.int) (some 3) (some (3 + d0 % 6)) = ((ds.take ka).drop 3).map V.int := by
      rw [eka]
      have := cut_mid (ds.map V.int) (i := 3) (k := ka) (by omega) (by omega)
      rw [List.map_drop, List.map_take]
      exact this
    refine ⟨La, rfl, ⟨_, sqL upd_same⟩, fun Ma nMa => ?_⟩
    have lena : ((ds.take ka).drop 3).length ≤ 5 := by
      rw [List.length_drop, List.length_take]
      omega
    generalize hxa : (ds.take ka).drop 3 = xa at ecuta lena
    refine lc_list_map (K := K) (a := La) (xs := xa.map V.int) (ys := (xa.map fun i => i % m).map V.int) (sqL (upd_same.trans (congrArg (fun z => some (HO.lst z)) ecuta))) nMa (by simp) (by simp; omega) (fun i x y H3 R hx hy s3 hR => ?_) ?_
    · obtain ⟨z, hz, rfl⟩ := ints_get hx
      rw [List.getElem?_map, List.getElem?_map, hz] at hy
      cases hy
      exact ⟨rfl, _, rfl, _, rfl, t, CT, dx, _, _, rfl, s3 _ _ (sLa _ _ (s1 _ _ ht0)), T.cl, T.nM, by rfl, _, _, rfl, rfl, (show 0 < m by omega), hR⟩
    refine ⟨Ma, xa.map fun i => i % m, rfl, .inl upd_same, by simp; omega, fun H2 a ta ha => ?_⟩
    have pa : Plain (mach m st rs) (trim (xa.map fun i => i % m)) := fun y hy => by
      obtain ⟨y0, _, rfl⟩ := List.mem_map.mp (_root_.K23.trim_mem hy)
      exact ⟨Int.emod_nonneg _ (by omega), Int.emod_lt_of_pos _ (show 0 < m by omega)⟩
    have la : (trim (xa.map fun i => i % m)).length ≤ 5 := by
      have := _root_.K23.trim_len (xa.map fun i => i % m)
      rw [List.length_map] at this
      omega
    have Ta := _root_.K23.trim_trimmed (xa.map fun i => i % m)
    have ra := (sLa.trans (same_upd (o := .lst ((xa.map fun i => i % m).map V.int)) nMa)).trans ta
    generalize trim (xa.map fun i => i % m) = ga at pa la Ta ha
    have s12 : Same H1 H2 := ra
    refine ⟨_, rfl, ⟨9, rfl, _, rfl, D, _, 1, .int d1, rfl, rfl, sqL (s12 _ _ hD), atI_nat (j := 1) e1, _, _, rfl, rfl, (show (0 : Int) < 6 by decide), _, _, rfl, rfl, _, rfl, D, _, rfl, sqL (s12 _ _ hD), fun Lb nLb => ?_⟩⟩
    have sLb := same_upd (o := .lst (cutV (ds.map V.int) (some 9) (some (9 + d1 % 6)))) nLb
    obtain ⟨kb, ekb⟩ : ∃ k : Nat, 9 + d1 % 6 = (k : Int) := ⟨(9 + d1 % 6).toNat, by omega⟩
    have ecutb : cutV (ds.map V.int) (some 9) (some (9 + d1 % 6)) = ((ds.take kb).drop 9).map V.int := by
      rw [ekb]
      have := cut_mid (ds.map V.int) (i := 9) (k := kb) (by omega) (by omega)
      rw [List.map_drop, List.map_take]
      exact this
    refine ⟨Lb, rfl, ⟨_, sqL upd_same⟩, fun Mb nMb => ?_⟩
    have lenb : ((ds.take kb).drop 9).length ≤ 5 := by
      rw [List.length_drop, List.length_take]
      omega
    generalize hxb : (ds.take kb).drop 9 = xb at ecutb lenb
    refine lc_list_map (K := K) (a := Lb) (xs := xb.map V.int) (ys := (xb.map fun i => i % m).map V.int) (sqL (upd_same.trans (congrArg (fun z => some (HO.lst z)) ecutb))) nMb (by simp) (by simp; omega) (fun i x y H3 R hx hy s3 hR => ?_) ?_
    · obtain ⟨z, hz, rfl⟩ := ints_get hx
      rw [List.getElem?_map, List.getElem?_map, hz] at hy
      cases hy
      exact ⟨rfl, _, rfl, _, rfl, t, CT, dx, _, _, rfl, s3 _ _ (sLb _ _ ((s1.trans s12) _ _ ht0)), T.cl, T.nM, by rfl, _, _, rfl, rfl, (show 0 < m by omega), hR⟩
    refine ⟨Mb, xb.map fun i => i % m, rfl, .inl upd_same, by simp; omega, fun H3 b tb hb => ?_⟩
    have pb : Plain (mach m st rs) (trim (xb.map fun i => i % m)) := fun y hy => by
      obtain ⟨y0, _, rfl⟩ := List.mem_map.mp (_root_.K23.trim_mem hy)
      exact ⟨Int.emod_nonneg _ (by omega), Int.emod_lt_of_pos _ (show 0 < m by omega)⟩
    have lb : (trim (xb.map fun i => i % m)).length ≤ 5 := by
      have := _root_.K23.trim_len (xb.map fun i => i % m)
      rw [List.length_map] at this
      omega
    have Tb := _root_.K23.trim_trimmed (xb.map fun i => i % m)
    have rb := (sLb.trans (same_upd (o := .lst ((xb.map fun i => i % m).map V.int)) nMb)).trans tb
    generalize trim (xb.map fun i => i % m) = gb at pb lb Tb hb
    have s13 : Same H H3 := (s1.trans s12).trans rb
    have hD3 := rb _ _ (s12 _ _ hD)
    refine ⟨_, rfl, D, _, 2, .int d2, rfl, rfl, sqL hD3, atI_nat (j := 2) e2, _, rfl, t, CT, dx, _, _, rfl, s13 _ _ ht0, T.cl, T.nS, by rfl, _, _, rfl, rfl, (show 0 < st by omega), _, rfl, _, rfl, D, _, 2, .int d2, rfl, rfl, sqL hD3, atI_nat (j := 2) e2, _, _, rfl, rfl, ⟨by decide, by decide⟩, _, rfl, t, CT, dx, _, _, rfl, s13 _ _ ht0, T.cl, T.nM, by rfl, _, _, rfl, rfl, (show 0 < m by omega), _, rfl, le_line (show 4 ≤ 100000 by decide), fun z nz => ?_⟩
    have sz := same_upd (o := .tup [.int (d2 % st), .ref a, .int (d2 / 40 % m), .ref b]) nz
    refine q _ z ⟨d2 % st, ga, d2 / 40 % m, gb⟩ (s13.trans sz) ⟨a, b, upd_same, sz _ _ (rb _ _ ha), sz _ _ hb⟩ ⟨pa, pb, Ta, Tb, Int.emod_nonneg _ (by omega), Int.emod_lt_of_pos _ (show 0 < st by omega), Int.emod_nonneg _ (by omega), Int.emod_lt_of_pos _ (show 0 < m by omega)⟩ ?_ ?_
    · show ga.length ≤ 10
      omega
    · show gb.length ≤ 10
      omega
/-! ### _law_next -/
theorem scLawNext : FnScope ["_law_machine", "_law_configuration_here", "_law_state", "_law_left", "_law_mark", "_law_right", "_law_row"] ["_law_machine", "_law_configuration_here"] (defScope sLawNext) := ⟨rfl, rfl, rfl, by decide +kernel, rfl, by decide +kernel, by decide +kernel⟩
def spLawNext (CT : Addr) : Sp := fun vs H Q _ => ∃ (T p : Addr) (m st : Int) (rs : List Row3) (c : Cfg), vs = [.ref T, .ref p] ∧ TapeAt CT H T m st rs ∧ Nums m st rs ∧ CfgAt H p c ∧ c.Ok (mach m st rs) ∧ c.l.length ≤ 100 ∧ c.r.length ≤ 100 ∧
  (cnx (mach m st rs) c = none → Q .non H) ∧ ∀ H' p' c', cnx (mach m st rs) c = some c' → Same H H' → CfgAt H' p' c' → Q (.ref p') H'
theorem ok_lawNext {f : Addr} {fd : FuncData} (F : Fun K "_law_next" "_law_next" sLawNext f fd) (cR : C8.Met P w K mg base 2 CT "row" (spRow CT) []) (cT : C8.Cal P w K mg base 1 "_law_trim" spLawTrim []) :
    FnOk P w K mg base CX0 3 f fd ["_law_machine", "_law_configuration_here"] (spLawNext CT) := by
  refine F.ok scLawNext (fun vs H Q E h => ?_) (fun cdv A outer s H vs Q E hr h => ?_)
  · obtain ⟨t, p, m, st, rs, c, rfl, _⟩ := h
    rfl
  · obtain ⟨t, p, m, st, rs, c, rfl, ht, n, ⟨l, r, hp, hl, hr0⟩, ok, ll, lr, q0, q1⟩ := h
    refine ⟨_, pss_cons (ps_asg (pv 1) (pg_tup (by rfl) (pgs_cons (pg_name (i := 2) scLawNext.nd rfl (Or.inl rfl)) (pgs_cons (pg_name (i := 3) scLawNext.nd rfl (Or.inl rfl)) (pgs_cons (pg_name (i := 4) scLawNext.nd rfl (Or.inl rfl)) (pgs_cons (pg_name (i := 5) scLawNext.nd rfl (Or.inl rfl)) pgs_nil))))))
      (pss_cons (ps_set (i := 6) scLawNext.nd rfl (Or.inl rfl) (C8.pe_mt cR hr (by decide) (pv 0) (pa_cons (pv 2) (pa_cons (pv 4) pa_nil))))
      (pss_cons (ps_if (pt_cmpR op_isN (pv 6) pe_non (nomark _)) (pss_one (ps_ret pe_non)) pss_nil)
      (pss_cons (ps_if (pt_cmpR op_eq (pe_ix (ix_tupK K) (pv 6) pe_int (fun _ _ => rfl)) pe_int (nomark _))
        (pss_cons (ps_set (i := 3) scLawNext.nd rfl (Or.inl rfl) (C8.pe_c cT hr (by decide) (by rfl) (pa_cons (pe_op op_catA (pe_tup (pa_cons (pe_ix (ix_tupK K) (pv 6) pe_int (fun _ _ => rfl)) pa_nil)) (pv 3)) pa_nil)))
        (pss_one (ps_ret (pe_tup (pa_cons (pe_ix (ix_tupK K) (pv 6) pe_int (fun _ _ => rfl)) (pa_cons (pv 3) (pa_cons (pe_ix (ix_tupK K) (pe_op op_catA (pv 5) (pe_tup (pa_cons pe_int pa_nil))) pe_int (fun _ _ => rfl)) (pa_cons (pe_slice sl_tupA (pv 5) (po_some pe_int) po_none) pa_nil)))))))) pss_nil)
      (pss_cons (ps_set (i := 5) scLawNext.nd rfl (Or.inl rfl) (C8.pe_c cT hr (by decide) (by rfl) (pa_cons (pe_op op_catA (pe_tup (pa_cons (pe_ix (ix_tupK K) (pv 6) pe_int (fun _ _ => rfl)) pa_nil)) (pv 5)) pa_nil)))
      (pss_one (ps_ret (pe_tup (pa_cons (pe_ix (ix_tupK K) (pv 6) pe_int (fun _ _ => rfl)) (pa_cons (pe_slice sl_tupA (pv 3) (po_some pe_int) po_none) (pa_cons (pe_ix (ix_tupK K) (pe_op op_catA (pv 3) (pe_tup (pa_cons pe_int pa_nil))) pe_int (fun _ _ => rfl)) (pa_cons (pv 5) pa_nil))))))))))), ?_⟩
    refine ⟨_, rfl, p, [.int c.q, .ref l, .int c.a, .ref r], rfl, sqT hp, rfl, _, [_, _, _], rfl, _, [_, _], rfl, _, [_], rfl, _, [], rfl, rfl, ?_⟩
    obtain ⟨dx, l0, xs0, ht0, _⟩ := id ht
    refine ⟨_, rfl, t, dx, _, rfl, ht0, by rfl, _, rfl, _, rfl, t, m, st, c.q, c.a, rs, rfl, ht, n, ok.q0, ok.q1, ok.a0, ok.a1, fun v rv => ?_⟩
    cases e : (mach m st rs).R c.q c.a with
    | none =>
      rw [e] at rv
      cases rv
      exact ⟨_, rfl, rfl, _, rfl, iteT (q0 (by unfold _root_.K23.cnx; rw [e]))⟩
    | some z =>
      obtain ⟨w0, mv, q'⟩ := z
      rw [e] at rv
      obtain ⟨pr, rfl, hpr⟩ := rv
      have ecnx : cnx (mach m st rs) c = if mv = 1 then some ⟨q', trim (w0 :: c.l), (c.r ++ [0]).headD 0, c.r.tail⟩ else some ⟨q', c.l.tail, (c.l ++ [0]).headD 0, trim (w0 :: c.r)⟩ := by
        unfold _root_.K23.cnx
        rw [e]
      have get0 : ∀ (xs : List Int), (xs.map V.int ++ [V.int 0])[0]? = some (.int ((xs ++ [0]).headD 0)) := fun xs => by
        cases xs with
        | nil => rfl
        | cons x xs => rfl
      have cutT : ∀ (xs : List Int), cutV (xs.map V.int) (some 1) none = xs.tail.map V.int := fun xs => by
        rw [cut_tail, List.map_tail]
      refine ⟨_, rfl, rfl, _, rfl, iteF ?_⟩
      refine ⟨_, rfl, pr, _, 1, _, rfl, rfl, sqT hpr, atI_nat (j := 1) rfl, rfl, _, rfl, ?_⟩
      by_cases hmv : mv = 1
      · rw [decide_eq_true (congrArg V.int hmv)]
        refine iteT ?_
        rw [if_pos hmv] at ecnx
        refine ⟨_, rfl, pr, _, 0, _, rfl, rfl, sqT hpr, atI_nat (j := 0) rfl, le_line (show 1 ≤ 100000 by decide), fun t1 nt1 => ⟨_, rfl, ?_⟩⟩
        have s1 := same_upd (o := .tup [.int w0]) nt1
        refine cat_tup (a := t1) (b := l) upd_same (s1 _ _ hl) (by simp; omega) fun H2 z2 s2 h2 => ?_
        refine ⟨z2, w0 :: c.l, rfl, .inr h2, by simp; omega, fun H3 tl s3 h3 => ?_⟩
        have s03 := (s1.trans s2).trans s3
        refine ⟨_, rfl, pr, _, 2, _, rfl, rfl, sqT (s03 _ _ hpr), atI_nat (j := 2) rfl, _, rfl, _, rfl, le_line (show 1 ≤ 100000 by decide), fun t4 nt4 => ?_⟩
        have s4 := same_upd (o := .tup [.int 0]) nt4
        refine cat_tup (a := r) (b := t4) (s4 _ _ (s03 _ _ hr0)) upd_same (by simp; omega) fun H5 z5 s5 h5 => ?_
        refine ⟨z5, _, 0, .int ((c.r ++ [0]).headD 0), rfl, rfl, sqT h5, atI_nat (j := 0) (get0 c.r), ?_⟩
        have s35 := s4.trans s5
        refine ⟨_, rfl, ⟨1, rfl, ?_⟩⟩
        unfold tNoPart
        refine slice_tup ((s03.trans s35) _ _ hr0) fun H6 z6 s6 h6 => ?_
        rw [cutT] at h6
        refine ⟨le_line (show 4 ≤ 100000 by decide), fun z nz => ?_⟩
        have sz := same_upd (o := .tup [.int q', .ref tl, .int ((c.r ++ [0]).headD 0), .ref z6]) nz
        exact q1 _ z _ ecnx (s03.trans (s35.trans (s6.trans sz))) ⟨tl, z6, upd_same, (s35.trans (s6.trans sz)) _ _ h3, sz _ _ h6⟩
      · rw [decide_eq_false (fun x => hmv (V.int.inj x))]
        refine iteF ?_
        rw [if_neg hmv] at ecnx
        refine ⟨_, rfl, pr, _, 0, _, rfl, rfl, sqT hpr, atI_nat (j := 0) rfl, le_line (show 1 ≤ 100000 by decide), fun t1 nt1 => ⟨_, rfl, ?_⟩⟩
        have s1 := same_upd (o := .tup [.int w0]) nt1
        refine cat_tup (a := t1) (b := r) upd_same (s1 _ _ hr0) (by simp; omega) fun H2 z2 s2 h2 => ?_
        refine ⟨z2, w0 :: c.r, rfl, .inr h2, by simp; omega, fun H3 tr s3 h3 => ?_⟩
        have s03 := (s1.trans s2).trans s3
        refine ⟨_, rfl, pr, _, 2, _, rfl, rfl, sqT (s03 _ _ hpr), atI_nat (j := 2) rfl, _, rfl, ⟨1, rfl, ?_⟩⟩
        unfold tNoPart
        refine slice_tup (s03 _ _ hl) fun H6 z6 s6 h6 => ?_
        rw [cutT] at h6
        refine ⟨_, rfl, le_line (show 1 ≤ 100000 by decide), fun t4 nt4 => ?_⟩
        have s4 := same_upd (o := .tup [.int 0]) nt4
        refine cat_tup (a := l) (b := t4) (s4 _ _ (s6 _ _ (s03 _ _ hl))) upd_same (by simp; omega) fun H5 z5 s5 h5 => ?_
        refine ⟨z5, _, 0, .int ((c.l ++ [0]).headD 0), rfl, rfl, sqT h5, atI_nat (j := 0) (get0 c.l), ?_⟩
        have s65 := s4.trans s5
        refine ⟨_, rfl, le_line (show 4 ≤ 100000 by decide), fun z nz => ?_⟩
        have sz := same_upd (o := .tup [.int q', .ref z6, .int ((c.l ++ [0]).headD 0), .ref tr]) nz
        exact q1 _ z _ ecnx (s03.trans (s6.trans (s65.trans sz))) ⟨z6, tr, upd_same, (s65.trans sz) _ _ h6, (s6.trans (s65.trans sz)) _ _ h3⟩
/-! ### _law_steps -/
theorem scLawSteps : FnScope ["_law_machine", "_law_configuration_here", "_law_steps_here", "_law_found", "_law_k", "_law_after"] ["_law_machine", "_law_configuration_here", "_law_steps_here"] (defScope sLawSteps) := ⟨rfl, rfl, rfl, by decide +kernel, rfl, by decide +kernel, by decide +kernel⟩
def spLawSteps (CT : Addr) : Sp := fun vs H Q _ => ∃ (T p : Addr) (m st : Int) (rs : List Row3) (c : Cfg) (n : Nat), vs = [.ref T, .ref p, .int (n : Int)] ∧ TapeAt CT H T m st rs ∧ Nums m st rs ∧ CfgAt H p c ∧ c.Ok (mach m st rs) ∧ c.l.length ≤ 10 ∧ c.r.length ≤ 10 ∧ n ≤ 60 ∧
  ∀ H' L, Same H H' → CfgsIn H' L (csteps (mach m st rs) c n) → Q (.ref L) H'
theorem ok_lawSteps {f : Addr} {fd : FuncData} (F : Fun K "_law_steps" "_law_steps" sLawSteps f fd) (B : Bi mg) (cN : C8.Cal P w K mg base 3 "_law_next" (spLawNext CT) []) :
    FnOk P w K mg base CX0 4 f fd ["_law_machine", "_law_configuration_here", "_law_steps_here"] (spLawSteps CT) := by
  refine F.ok scLawSteps (fun vs H Q E h => ?_) (fun cdv A outer s H vs Q E hr h => ?_)
  · obtain ⟨t, p, m, st, rs, c, n, rfl, _⟩ := h
    rfl
  · obtain ⟨t, p, m, st, rs, c, n, rfl, ht, nums, hp, ok, ll, lr, hn, q⟩ := h
    have mok := nums.mach
    refine ⟨_, pss_cons (ps_set (i := 3) scLawSteps.nd rfl (Or.inl rfl) (pe_lst (pa_cons (pv 1) pa_nil)))
      (pss_cons (ps_for PassesOwn.never rfl (pi_range1 (by rfl) B.range (pa_cons (pv 2) pa_nil)) (pg_name (i := 4) scLawSteps.nd rfl (Or.inl rfl))
        (pss_cons (ps_set (i := 5) scLawSteps.nd rfl (Or.inl rfl) (C8.pe_c cN hr (by decide) (by rfl) (pa_cons (pv 0) (pa_cons (pe_ix (ix_listK K) (pv 3) (pe_un un_neg pe_int) (fun _ _ => rfl)) pa_nil))))
        (pss_cons (ps_if (pt_cmpR op_isN (pv 5) pe_non (nomark _)) (pss_one (ps_ret (pv 3))) pss_nil)
        (pss_one (ps_expr (pe_bm PySem.F.plainAttrs_list PySem.F.slot_list_append PySem.F.type_list_append mt_append (pv 3) (pa_cons (pv 5) pa_nil)))))))
      (pss_one (ps_ret (pv 3)))), ?_⟩
    refine ⟨_, rfl, le_line (show 1 ≤ 100000 by decide), fun R nR => ?_⟩
    have sR := same_upd (o := .lst [.ref p]) nR
    have hR0 : upd H R (.lst [.ref p]) R = some (.lst [.ref p]) := upd_same
    generalize upd H R (.lst [.ref p]) = H1 at sR hR0
    refine ⟨_, rfl, (n : Int), rfl, by omega, by omega, ?_⟩
    refine for_range (lo := 0) (n := n) (fun i σ H2 => Same H H2 ∧ (∃ y4 y5, σ = [some (.ref t), some (.ref p), some (.int (n : Int)), some (.ref R), y4, y5]) ∧ ∃ (pre : List Cfg) (d : Cfg), CfgsIn H2 R (pre ++ [d]) ∧ pre.length = i ∧ csteps (mach m st rs) c n = pre ++ csteps (mach m st rs) d (n - i))
      ⟨sR, ⟨none, none, rfl⟩, [], c, ⟨[p], hR0, rfl, fun i p' c' e1 e2 => ?_⟩, rfl, rfl⟩ ?_ ?_
    · cases i with
      | zero =>
        cases e1
        cases e2
        exact hp.mono sR
      | succ i => simp at e1
    · rintro i σ H2 hi ⟨s2, ⟨y4, y5, rfl⟩, pre, d, hin, lp, es⟩
      obtain ⟨ps, hR, lps, hps⟩ := id hin
      have lps' : ps.length = i + 1 := by
        rw [lps, List.length_append, lp]
        rfl
      obtain ⟨pd, hpd⟩ : ∃ pd, ps[i]? = some pd := ⟨ps[i]'(by omega), List.getElem?_eq_getElem (by omega)⟩
      have hd : (pre ++ [d])[i]? = some d := by
        rw [List.getElem?_append_right (by omega), lp, Nat.sub_self]
        rfl
      have hdat := hps i pd d hpd hd
      have eps : ps.map V.ref = (ps.map V.ref).take i ++ [.ref pd] := last_split (by rw [List.length_map]; exact lps') (by rw [List.getElem?_map, hpd]; rfl)
      have eni : n - i = (n - (i + 1)) + 1 := by omega
      rw [eni] at es
      have dmem : d ∈ csteps (mach m st rs) c n := by
        rw [es]
        obtain ⟨tl, e⟩ := _root_.K23.csteps_cons (mach m st rs) d (n - (i + 1) + 1)
        rw [e]
        exact List.mem_append_right _ (List.mem_cons_self ..)
      obtain ⟨dok, dl, dr⟩ := _root_.K23.csteps_ok mok n 10 ok ll lr d dmem
      refine ⟨_, rfl, _, rfl, _, rfl, R, _, -1, .ref pd, rfl, rfl, sqL hR, by rw [eps]; exact atI_last _ _, t, pd, m, st, rs, d, rfl, ht.mono s2, nums, hdat, dok, by omega, by omega, fun e => ?_, fun H3 p3 c3 e s3 h3 => ?_⟩
      · refine ⟨_, rfl, rfl, _, rfl, iteT ?_⟩
        refine ⟨_, rfl, q H2 R s2 ?_⟩
        have : csteps (mach m st rs) d (n - (i + 1) + 1) = [d] := by
          unfold _root_.K23.csteps
          rw [e]
        rw [es, this]
        exact hin
      · refine ⟨_, rfl, rfl, _, rfl, iteF ?_⟩
        have hin3 := hin.mono s3
        obtain ⟨hin4, la⟩ := hin3.snoc h3 (s3 _ _ hR)
        refine ⟨_, rfl, .inl ⟨rfl, _, sqL (s3 _ _ hR)⟩, _, rfl, R, _, _, rfl, rfl, s3 _ _ hR, ?_, same_over (s2.trans s3) nR, ⟨_, _, rfl⟩, pre ++ [d], c3, hin4, by rw [List.length_append, lp]; rfl, ?_⟩
        · rw [la, List.length_append, lp]
          exact lt_line (by show i + 1 ≤ 100000; omega)
        · have : csteps (mach m st rs) d (n - (i + 1) + 1) = d :: csteps (mach m st rs) c3 (n - (i + 1)) := by
            rw [_root_.K23.csteps]
            rw [e]
          rw [es, this, List.append_assoc]
          rfl
    · rintro σ H2 ⟨s2, ⟨y4, y5, rfl⟩, pre, d, hin, lp, es⟩
      refine ⟨_, rfl, q H2 R s2 ?_⟩
      have e0 : n - n = 0 := Nat.sub_self n
      rw [e0] at es
      rw [es]
      exact hin
end
end L2.K23
set_option Elab.async false
set_option linter.all false
set_option maxRecDepth 100000
set_option maxHeartbeats 4000000
/-! The law's own defs: _law_floors. -/
namespace L2.K23
open PySem PySem.Spec PyProof.Rows
open _root_.K23 (T4 Mach Cfg Plain Trimmed trim strip cnx csteps psteps nx fl cfg)
/-- floors, in a list -/
def FlsIn (H : Hp) (L : Addr) (fs : List (List Int)) : Prop := ∃ ps : List Addr, H L = some (.lst (ps.map V.ref)) ∧ ps.length = fs.length ∧ ∀ (i : Nat) (p : Addr) (f : List Int), ps[i]? = some p → fs[i]? = some f → TupI H p f
theorem FlsIn.mono {H H' : Hp} {L : Addr} {fs : List (List Int)} (h : FlsIn H L fs) (s : Same H H') : FlsIn H' L fs := by
  obtain ⟨ps, h1, h2, h3⟩ := h
  exact ⟨ps, s _ _ h1, h2, fun i p f e1 e2 => s _ _ (h3 i p f e1 e2)⟩
theorem FlsIn.nil {H : Hp} {L : Addr} (h : H L = some (.lst [])) : FlsIn H L [] := ⟨[], h, rfl, fun i p f e => by simp at e⟩
theorem FlsIn.snoc {H : Hp} {L p : Addr} {fs : List (List Int)} {f : List Int} {acc : List V} (h : FlsIn H L fs) (hp : TupI H p f) (hacc : H L = some (.lst acc)) : FlsIn (upd H L (.lst (acc ++ [.ref p]))) L (fs ++ [f]) ∧ acc.length = fs.length := by
  obtain ⟨ps, h1, h2, h3⟩ := h
  rw [hacc] at h1
  cases h1
  have k : ∀ {b ns u}, TupI H b ns → TupI (upd H L u) b ns := fun {b ns u} hb => by
    show upd H L u b = _
    rw [upd_ne (ne_of hb hacc (by intro z; cases z))]
    exact hb
  refine ⟨⟨ps ++ [p], by rw [upd_same, List.map_append]; rfl, by rw [List.length_append, List.length_append, h2]; rfl, fun i q g e1 e2 => ?_⟩, by rw [List.length_map, h2]⟩
  by_cases lt : i < ps.length
  · rw [List.getElem?_append_left lt] at e1
    rw [List.getElem?_append_left (by omega)] at e2
    exact k (h3 i q g e1 e2)
  · rw [List.getElem?_append_right (by omega)] at e1
    rw [List.getElem?_append_right (by omega), ← h2] at e2
    by_cases e0 : i - ps.length = 0
    · rw [e0] at e1 e2
      cases e1
      cases e2
      exact k hp
    · obtain ⟨j, hj⟩ : ∃ j, i - ps.length = j + 1 := ⟨i - ps.length - 1, by omega⟩
      rw [hj] at e1
      cases e1
/-- a side of the floor from the side of a configuration -/
theorem pad_side {b : List Int} {W n : Nat} (hn : n = b.length) (hW : n ≤ W) : cutV ((trim b).map V.int ++ List.replicate W (V.int 0)) none (some (n : Int)) = b.map V.int := by
  have hl := _root_.K23.trim_len b
  rw [cut_take _ (by rw [List.length_append, List.length_replicate, List.length_map]; omega)]
  have e : (trim b).map V.int ++ List.replicate W (V.int 0) = (trim b ++ List.replicate W 0).map V.int := by
    rw [List.map_append, List.map_replicate]
  rw [e, ← List.map_take, _root_.K23.pad_take hn hW]
section
variable {P : Program} {w : World} {K : PySem.W.Frag} {mg : Str → Option Value} {base : Heap} {C CT CS CL : Addr}
theorem scLawFloors : FnScope ["_law_machine", "_law_run", "_law_margin", "_law_width", "_law_floors_here", "_law_at", "_law_k", "_law_state", "_law_left", "_law_mark", "_law_right", "_law_before", "_law_after"] ["_law_machine", "_law_run", "_law_margin", "_law_width"] (defScope sLawFloors) := ⟨rfl, rfl, rfl, by decide +kernel, rfl, by decide +kernel, by decide +kernel⟩
def spLawFloors (CT : Addr) : Sp := fun vs H Q _ => ∃ (T R : Addr) (m st : Int) (rs : List Row3) (p0 : _root_.K23.Pos) (n k W : Nat), vs = [.ref T, .ref R, .int (k : Int), .int (W : Int)] ∧ TapeAt CT H T m st rs ∧ Nums m st rs ∧ p0.Ok (mach m st rs) ∧ n ≤ 60 ∧
  CfgsIn H R (csteps (mach m st rs) (cfg p0) n) ∧ k + (trim p0.b).length = p0.b.length ∧ W = p0.b.length + 1 + p0.c.length ∧ W ≤ 60 ∧ ∀ H' L, Same H H' → FlsIn H' L ((psteps (mach m st rs) p0 n).map (fl (mach m st rs))) → Q (.ref L) H'
theorem ok_lawFloors {f : Addr} {fd : FuncData} (F : Fun K "_law_floors" "_law_floors" sLawFloors f fd) (B : Bi mg) (cR : C8.Met P w K mg base 2 CT "row" (spRow CT) []) (cL : C8.Cal P w K mg base 1 "_law_letter" (spLawLetter CT) []) :
    FnOk P w K mg base CX0 3 f fd ["_law_machine", "_law_run", "_law_margin", "_law_width"] (spLawFloors CT) := by
  refine F.ok scLawFloors (fun vs H Q E h => ?_) (fun cdv A outer s H vs Q E hr h => ?_)
  · obtain ⟨t, R, m, st, rs, p0, n, k, W, rfl, _⟩ := h
    rfl
  · obtain ⟨t, R, m, st, rs, p0, n, k, W, rfl, ht, nums, ok0, hn, hcs, hk, hW, W60, q⟩ := h
    have mok := nums.mach
    have m2 := nums.m2
    have m5 := nums.m5
    refine ⟨_, pss_cons (ps_set (i := 4) scLawFloors.nd rfl (Or.inl rfl) (pe_lst pa_nil))
      (pss_cons (ps_set (i := 5) scLawFloors.nd rfl (Or.inl rfl) (pe_op op_add (pv 2) (pe_callB call_len_seq (by rfl) B.len PySem.boot_len (pa_cons (pe_ix (ix_tupK K) (pe_ix (ix_listK K) (pv 1) pe_int (fun _ _ => rfl)) pe_int (fun _ _ => rfl)) pa_nil))))
      (pss_cons (ps_for PassesOwn.never rfl (pi_range1 (by rfl) B.range (pa_cons (pe_callB call_len_seq (by rfl) B.len PySem.boot_len (pa_cons (pv 1) pa_nil)) pa_nil)) (pg_name (i := 6) scLawFloors.nd rfl (Or.inl rfl))
        (pss_cons (ps_if (pt_cmpR op_gt (pv 6) pe_int (nomark _))
          (pss_one (ps_set (i := 5) scLawFloors.nd rfl (Or.inl rfl) (pe_op op_add (pv 5) (pe_ix (ix_tupK K) (C8.pe_mt cR hr (by decide) (pv 0)
            (pa_cons (pe_ix (ix_tupK K) (pe_ix (ix_listK K) (pv 1) (pe_op op_sub (pv 6) pe_int) (fun _ _ => rfl)) pe_int (fun _ _ => rfl)) (pa_cons (pe_ix (ix_tupK K) (pe_ix (ix_listK K) (pv 1) (pe_op op_sub (pv 6) pe_int) (fun _ _ => rfl)) pe_int (fun _ _ => rfl)) pa_nil))) pe_int (fun _ _ => rfl))))) pss_nil)
        (pss_cons (ps_if (PW.pt (pw_or (pt_cmpR op_lt (pv 5) pe_int (nomark _)) (pw_or1 (pt_cmpR op_ge (pv 5) (pv 3) (nomark _))))) (pss_one (ps_ret (pv 4))) pss_nil)
        (pss_cons (ps_asg (pe_ix (ix_listK K) (pv 1) (pv 6) (fun _ _ => rfl)) (pg_tup (by rfl) (pgs_cons (pg_name (i := 7) scLawFloors.nd rfl (Or.inl rfl)) (pgs_cons (pg_name (i := 8) scLawFloors.nd rfl (Or.inl rfl)) (pgs_cons (pg_name (i := 9) scLawFloors.nd rfl (Or.inl rfl)) (pgs_cons (pg_name (i := 10) scLawFloors.nd rfl (Or.inl rfl)) pgs_nil))))))
        (pss_cons (ps_set (i := 11) scLawFloors.nd rfl (Or.inl rfl) (pe_revT (pe_slice sl_tupA (pe_op op_catA (pv 8) (pe_op op_repZ (pe_tup (pa_cons pe_int pa_nil)) (pv 3))) po_none (po_some (pv 5)))))
        (pss_cons (ps_set (i := 12) scLawFloors.nd rfl (Or.inl rfl) (pe_slice sl_tupA (pe_op op_catA (pv 10) (pe_op op_repZ (pe_tup (pa_cons pe_int pa_nil)) (pv 3))) po_none (po_some (pe_op op_sub (pe_op op_sub (pv 3) (pv 5)) pe_int))))
        (pss_one (ps_expr (pe_bm PySem.F.plainAttrs_list PySem.F.slot_list_append PySem.F.type_list_append mt_append (pv 4)
          (pa_cons (pe_op op_catA (pe_op op_catA (pv 11) (pe_tup (pa_cons (C8.pe_c cL hr (by decide) (by rfl) (pa_cons (pv 0) (pa_cons (pv 9) (pa_cons (pv 7) pa_nil)))) pa_nil))) (pv 12)) pa_nil))))))))))
      (pss_one (ps_ret (pv 4))))), ?_⟩
    -- floors = []
    refine ⟨Nat.zero_le _, fun L nL => ?_⟩
    have sL := same_upd (o := .lst []) nL
    have hL0 : upd H L (.lst []) L = some (.lst []) := upd_same
    generalize upd H L (.lst []) = H1 at sL hL0
    -- at = margin + len(run[0][1])
    obtain ⟨ps, hR, lps, hps⟩ := id hcs
    generalize hcsd : csteps (mach m st rs) (cfg p0) n = cs at lps hps hcs
    have lcs := _root_.K23.csteps_len (mach m st rs) n (cfg p0)
    rw [hcsd] at lcs
    obtain ⟨tl0, etl0⟩ := _root_.K23.csteps_cons (mach m st rs) (cfg p0) n
    rw [hcsd] at etl0
    have cs0 : cs[0]? = some (cfg p0) := by rw [etl0]; rfl
    have cs1 : 0 < cs.length := by rw [etl0]; exact Nat.zero_lt_succ _
    have place : ∀ i c, cs[i]? = some c → ∃ pi, (ps.map V.ref)[i]? = some (V.ref pi) ∧ CfgAt H pi c := fun i c e => by
      have lt : i < cs.length := (List.getElem?_eq_some_iff.mp e).1
      have e2 : ps[i]? = some (ps[i]'(by omega)) := List.getElem?_eq_getElem (by omega)
      exact ⟨_, by rw [List.getElem?_map, e2]; rfl, hps i _ c e2 e⟩
    obtain ⟨a0, ha0, l0, r0, ha0t, hl0, hr0⟩ := place 0 _ cs0
    have hl01 : TupI H1 l0 (cfg p0).l := sL _ _ hl0
    refine ⟨_, rfl, _, rfl, R, _, 0, _, rfl, rfl, sqL (sL _ _ hR), atI_nat (j := 0) ha0, a0, _, 1, _, rfl, rfl, sqT (sL _ _ ha0t), atI_nat (j := 1) rfl, l0, _, rfl, .inr hl01.sq, _, _, rfl, rfl, ?_⟩
    have hat0 : V.int ((k : Int) + ((((cfg p0).l).map V.int).length : Int)) = V.int (p0.b.length : Int) := by
      rw [List.length_map]
      show V.int ((k : Int) + ((trim p0.b).length : Int)) = _
      rw [← hk]
      rfl
    -- for k in range(len(run))
    have lpm : (ps.map V.ref).length = cs.length := by rw [List.length_map]; exact lps
    refine ⟨_, rfl, R, _, rfl, .inl (sqL (sL _ _ hR)), (cs.length : Int), by rw [lpm], by omega, by omega, ?_⟩
    obtain ⟨dx, lt0, xt0, ht0, _⟩ := id ht
    refine for_range (lo := 0) (n := cs.length) (fun i σ H2 => Same H H2 ∧ ∃ (pre : List _root_.K23.Pos), (∃ (a : V) (y6 y7 y8 y9 y10 y11 y12 : Option V), σ = [some (.ref t), some (.ref R), some (.int (k : Int)), some (.int (W : Int)), some (.ref L), some a, y6, y7, y8, y9, y10, y11, y12] ∧
        ((i = 0 ∧ a = .int (p0.b.length : Int)) ∨ ∃ (p : _root_.K23.Pos) (pre0 : List _root_.K23.Pos), pre = pre0 ++ [p] ∧ a = .int (p.b.length : Int) ∧ psteps (mach m st rs) p0 n = pre0 ++ psteps (mach m st rs) p (n - pre0.length) ∧ cs = pre0.map cfg ++ csteps (mach m st rs) (cfg p) (n - pre0.length) ∧
          p.Ok (mach m st rs) ∧ p.b.length + 1 + p.c.length = W)) ∧ FlsIn H2 L (pre.map (fl (mach m st rs))) ∧ pre.length = i)
      ⟨sL, [], ⟨_, none, none, none, none, none, none, none, rfl, .inl ⟨rfl, hat0⟩⟩, FlsIn.nil hL0, rfl⟩ ?_ ?_
    · rintro i σ H2 hi ⟨s2, pre, ⟨a, y6, y7, y8, y9, y10, y11, y12, rfl, ha⟩, hin, lpre⟩
      cases i with
      | zero =>
        have hat : a = .int (p0.b.length : Int) := by
          rcases ha with ⟨_, e⟩ | ⟨p, pre0, e, _⟩
          · exact e
          · rw [e] at lpre
            simp at lpre
        have epre : pre = [] := List.eq_nil_of_length_eq_zero lpre
        have hcsi : cs[0]? = some (cfg p0) := cs0
        have hpse : psteps (mach m st rs) p0 n = pre ++ psteps (mach m st rs) p0 (n - 0) := by
          rw [epre]
          rfl
        have hcse : cs = pre.map cfg ++ csteps (mach m st rs) (cfg p0) (n - 0) := by
          rw [epre]
          exact hcsd.symm
        have pcok := ok0
        have pcw : p0.b.length + 1 + p0.c.length = W := hW.symm
        refine ⟨_, rfl, _, _, rfl, rfl, _, rfl, ?_⟩
        rw [decide_eq_false (by omega)]
        refine iteF ?_
        -- if at < 0 or at >= width
        refine ⟨_, rfl, (p0.b.length : Int), _, hat, rfl, _, rfl, ?_⟩
        rw [decide_eq_false (by omega)]
        refine iteF ⟨_, rfl, _, rfl, (p0.b.length : Int), _, hat, rfl, _, rfl, ?_⟩
        rw [decide_eq_false (by omega)]
        refine iteF ?_
        -- the configuration's parts
        obtain ⟨pi, hpi, l, r, hpt, hl, hr0⟩ := place 0 _ hcsi
        refine ⟨_, rfl, _, rfl, R, _, _, _, rfl, rfl, sqL (s2 _ _ hR), at_of (j := 0) (by omega) hpi, ?_⟩
        have hll : (cfg p0).l.length ≤ p0.b.length := _root_.K23.trim_len _
        have hlr : (cfg p0).r.length ≤ p0.c.length := _root_.K23.trim_len _
        refine ⟨pi, [.int (cfg p0).q, .ref l, .int (cfg p0).a, .ref r], rfl, sqT (s2 _ _ hpt), rfl, _, [_, _, _], rfl, _, [_, _], rfl, _, [_], rfl, _, [], rfl, rfl, ?_⟩
        -- before
        refine ⟨_, rfl, le_line (show 1 ≤ 100000 by decide), fun t1 nt1 => ⟨_, rfl, ?_⟩⟩
        have q1 := same_upd (o := .tup [.int 0]) nt1
        refine rep_tup (l := t1) (k := W) upd_same (by omega) fun H3 t2 q2 h3 => ?_
        have q12 := q1.trans q2
        refine cat_tup (a := l) (b := t2) (q12 _ _ (s2 _ _ hl)) h3 (by rw [List.length_map, List.length_replicate]; omega) fun H4 t3 q3 h4 => ?_
        have q13 := q12.trans q3
        unfold tNoPart
        refine ⟨_, rfl, (p0.b.length : Int), hat, ?_⟩
        refine slice_tup h4 fun H5 t4 q4 h5 => ?_
        have h5 : H5 t4 = some (.tup (cutV ((trim p0.b).map V.int ++ List.replicate W (V.int 0)) none (some (p0.b.length : Int)))) := h5
        rw [pad_side rfl (by omega)] at h5
        have q14 := q13.trans q4
        refine ⟨t4, _, rfl, sqT h5, fun t5 nt5 => ?_⟩
        have q5 := same_upd (o := .tup (p0.b.map V.int).reverse) nt5
        have q15 := q14.trans q5
        have h6 : upd H5 t5 (.tup (p0.b.map V.int).reverse) t5 = some (.tup (p0.b.map V.int).reverse) := upd_same
        generalize upd H5 t5 (.tup (p0.b.map V.int).reverse) = H6 at q5 q15 h6
        -- after
        refine ⟨_, rfl, le_line (show 1 ≤ 100000 by decide), fun t6 nt6 => ⟨_, rfl, ?_⟩⟩
        have q6 := same_upd (o := .tup [.int 0]) nt6
        refine rep_tup (l := t6) (k := W) upd_same (by omega) fun H7 t7 q7 h7 => ?_
        have q67 := q6.trans q7
        refine cat_tup (a := r) (b := t7) (q67 _ _ (q15 _ _ (s2 _ _ hr0))) h7 (by rw [List.length_map, List.length_replicate]; omega) fun H8 t8 q8 h8 => ?_
        refine ⟨_, rfl, _, rfl, _, (p0.b.length : Int), rfl, hat, _, _, rfl, rfl, (p0.c.length : Int), (show V.int ((W : Int) - (p0.b.length : Int) - 1) = V.int (p0.c.length : Int) from congrArg V.int (by omega)), ?_⟩
        refine slice_tup h8 fun H9 t9 q9 h9 => ?_
        have h9 : H9 t9 = some (.tup (cutV ((trim p0.c).map V.int ++ List.replicate W (V.int 0)) none (some (p0.c.length : Int)))) := h9
        rw [pad_side rfl (by omega)] at h9
        have q69 := (q67.trans q8).trans q9
        have q19 := q15.trans q69
        -- floors.append(..)
        have s29 := s2.trans q19
        have hin9 := hin.mono q19
        obtain ⟨pf, hLf, _⟩ := id hin9
        refine ⟨_, rfl, .inl ⟨rfl, _, sqL hLf⟩, _, rfl, _, rfl, _, rfl, _, rfl, t, m, st, p0.a, p0.q, rs, rfl, ht.mono s29, m2, m5, le_line (show 1 ≤ 100000 by decide), fun ta nta => ?_⟩
        have qa := same_upd (o := .tup [.int (m * (p0.q + 1) + p0.a)]) nta
        refine cat_tup (a := t5) (b := ta) (qa _ _ (q69 _ _ h6)) upd_same (by simp; omega) fun Hb tb qb hb => ?_
        have qab := qa.trans qb
        refine ⟨_, rfl, ?_⟩
        refine cat_tup (a := tb) (b := t9) hb (qab _ _ h9) (by simp; omega) fun Hc tc qc hc => ?_
        have qac := qab.trans qc
        have hc : TupI Hc tc (fl (mach m st rs) p0) := by
          refine hc.trans ?_
          unfold _root_.K23.fl
          rw [List.map_append, List.map_cons, List.map_reverse, List.append_assoc]
          rfl
        obtain ⟨hin', la⟩ := (hin9.mono qac).snoc hc (qac _ _ hLf)
        refine ⟨L, _, _, rfl, rfl, qac _ _ hLf, ?_, same_over (s29.trans qac) nL, pre ++ [p0], ⟨_, _, _, _, _, _, _, _, rfl, .inr ⟨p0, pre, rfl, hat, by rw [lpre]; exact hpse, by rw [lpre]; exact hcse, pcok, pcw⟩⟩, ?_, by rw [List.length_append, lpre]; rfl⟩
        · rw [la, List.length_map, lpre]
          exact lt_line (by omega)
        · rw [List.map_append]
          exact hin'
      | succ j =>
        obtain ⟨p, pre0, epre, hap, ep1, ec1, pok, pw⟩ : ∃ (p : _root_.K23.Pos) (pre0 : List _root_.K23.Pos), pre = pre0 ++ [p] ∧ a = .int (p.b.length : Int) ∧ psteps (mach m st rs) p0 n = pre0 ++ psteps (mach m st rs) p (n - pre0.length) ∧ cs = pre0.map cfg ++ csteps (mach m st rs) (cfg p) (n - pre0.length) ∧
            p.Ok (mach m st rs) ∧ p.b.length + 1 + p.c.length = W := by
          rcases ha with ⟨e, _⟩ | h
          · cases e
          · exact h
        have lp0 : pre0.length = j := by
          rw [epre, List.length_append] at lpre
          exact Nat.succ.inj lpre
        rw [lp0] at ep1 ec1
        have l2 : 2 ≤ (csteps (mach m st rs) (cfg p) (n - j)).length := by
          have := congrArg List.length ec1
          rw [List.length_append, List.length_map, lp0] at this
          omega
        have enj : n - j = (n - (j + 1)) + 1 := by
          cases e : n - j with
          | zero =>
            rw [e] at l2
            exact absurd l2 (by show ¬ 2 ≤ 1; omega)
          | succ z => omega
        rw [enj] at ep1 ec1 l2
        obtain ⟨c', ec'⟩ : ∃ c', cnx (mach m st rs) (cfg p) = some c' := by
          cases e : cnx (mach m st rs) (cfg p) with
          | some c' => exact ⟨c', rfl⟩
          | none =>
            unfold _root_.K23.csteps at l2
            rw [e] at l2
            exact absurd l2 (by show ¬ 2 ≤ 1; omega)
        have ecs : csteps (mach m st rs) (cfg p) (n - (j + 1) + 1) = cfg p :: csteps (mach m st rs) c' (n - (j + 1)) := by
          rw [_root_.K23.csteps]
          rw [ec']
        rw [ecs] at ec1
        have csj : cs[j]? = some (cfg p) := by
          rw [ec1, List.getElem?_append_right (by rw [List.length_map]; omega), List.length_map, lp0, Nat.sub_self]
          rfl
        have csj1 : cs[j + 1]? = some c' := by
          obtain ⟨tl, etl⟩ := _root_.K23.csteps_cons (mach m st rs) c' (n - (j + 1))
          have e1 : j + 1 - j = 1 := by omega
          rw [ec1, List.getElem?_append_right (by rw [List.length_map]; omega), List.length_map, lp0, e1, etl]
          rfl
        obtain ⟨w0, v0, q', hRow⟩ := _root_.K23.cnx_row ec'
        have hRow : (mach m st rs).R p.q p.a = some (w0, v0, q') := hRow
        subst hap
        obtain ⟨pj, hpj, lj, rj, hpjt, _, _⟩ := place j _ csj
        -- at = at + machine.row(..)[1]
        refine ⟨_, rfl, _, _, rfl, rfl, _, rfl, ?_⟩
        rw [decide_eq_true (by omega)]
        refine iteT ?_
        refine ⟨_, rfl, _, rfl, t, dx, _, rfl, s2 _ _ ht0, by rfl, _, rfl, _, rfl, _, _, rfl, rfl, R, _, _, _, rfl, rfl, sqL (s2 _ _ hR), at_of (j := j) (by omega) hpj, pj, _, 0, _, rfl, rfl, sqT (s2 _ _ hpjt), atI_nat (j := 0) rfl,
          _, rfl, _, rfl, _, _, rfl, rfl, R, _, _, _, rfl, rfl, sqL (s2 _ _ hR), at_of (j := j) (by omega) hpj, pj, _, 2, _, rfl, rfl, sqT (s2 _ _ hpjt), atI_nat (j := 2) rfl, t, m, st, p.q, p.a, rs, rfl, ht.mono s2, nums, pok.q0, pok.q1, pok.a0, pok.a1, fun v rv => ?_⟩
        rw [hRow] at rv
        obtain ⟨pr, rfl, hpr⟩ := rv
        refine ⟨pr, _, 1, _, rfl, rfl, sqT hpr, atI_nat (j := 1) rfl, _, _, rfl, rfl, ?_⟩
        cases enx : nx (mach m st rs) p with
        | none =>
          have ep : psteps (mach m st rs) p (n - (j + 1) + 1) = [p] := by
            rw [_root_.K23.psteps]
            rw [enx]
          rw [ep, ← epre] at ep1
          have out : (p.b.length : Int) + v0 < 0 ∨ (W : Int) ≤ (p.b.length : Int) + v0 := by
            obtain ⟨w2, v2, q2, e2, h2⟩ := _root_.K23.cfg_out mok pok enx ec'
            rw [hRow] at e2
            cases e2
            rcases h2 with ⟨h3, h4⟩ | ⟨h3, h4⟩
            · right
              rw [h4] at pw
              simp at pw
              omega
            · left
              rw [h4, h3]
              decide
          have fin := q H2 L s2 (by rw [ep1]; exact hin)
          refine ⟨_, rfl, (p.b.length : Int) + v0, _, rfl, rfl, _, rfl, ?_⟩
          by_cases c0 : (p.b.length : Int) + v0 < 0
          · rw [decide_eq_true c0]
            exact iteT (iteT ⟨_, rfl, fin⟩)
          · rw [decide_eq_false c0]
            refine iteF ⟨_, rfl, _, rfl, (p.b.length : Int) + v0, _, rfl, rfl, _, rfl, ?_⟩
            have c1 : (W : Int) ≤ (p.b.length : Int) + v0 := by omega
            rw [decide_eq_true c1]
            exact iteT ⟨_, rfl, fin⟩
        | some p' =>
          have hat : V.int ((p.b.length : Int) + v0) = V.int (p'.b.length : Int) := congrArg V.int (_root_.K23.nx_at mok pok hRow enx).symm
          have ec2 := _root_.K23.cfg_nx enx
          rw [ec'] at ec2
          cases ec2
          have ep : psteps (mach m st rs) p (n - (j + 1) + 1) = p :: psteps (mach m st rs) p' (n - (j + 1)) := by
            rw [_root_.K23.psteps]
            rw [enx]
          have pcok := (_root_.K23.det_some mok pok enx).1
          have pcw : p'.b.length + 1 + p'.c.length = W := by
            have := _root_.K23.nx_width enx
            omega
          have hpse : psteps (mach m st rs) p0 n = pre ++ psteps (mach m st rs) p' (n - (j + 1)) := by
            rw [ep1, ep, epre, List.append_assoc]
            rfl
          have hcse : cs = pre.map cfg ++ csteps (mach m st rs) (cfg p') (n - (j + 1)) := by
            rw [epre, List.map_append, List.append_assoc]
            exact ec1
          have hcsi := csj1
          -- if at < 0 or at >= width
          refine ⟨_, rfl, (p'.b.length : Int), _, hat, rfl, _, rfl, ?_⟩
          rw [decide_eq_false (by omega)]
          refine iteF ⟨_, rfl, _, rfl, (p'.b.length : Int), _, hat, rfl, _, rfl, ?_⟩
          rw [decide_eq_false (by omega)]
          refine iteF ?_
          -- the configuration's parts
          obtain ⟨pi, hpi, l, r, hpt, hl, hr0⟩ := place (j + 1) _ hcsi
          refine ⟨_, rfl, _, rfl, R, _, _, _, rfl, rfl, sqL (s2 _ _ hR), at_of (j := j + 1) (by omega) hpi, ?_⟩
          have hll : (cfg p').l.length ≤ p'.b.length := _root_.K23.trim_len _
          have hlr : (cfg p').r.length ≤ p'.c.length := _root_.K23.trim_len _
          refine ⟨pi, [.int (cfg p').q, .ref l, .int (cfg p').a, .ref r], rfl, sqT (s2 _ _ hpt), rfl, _, [_, _, _], rfl, _, [_, _], rfl, _, [_], rfl, _, [], rfl, rfl, ?_⟩
          -- before
          refine ⟨_, rfl, le_line (show 1 ≤ 100000 by decide), fun t1 nt1 => ⟨_, rfl, ?_⟩⟩
          have q1 := same_upd (o := .tup [.int 0]) nt1
          refine rep_tup (l := t1) (k := W) upd_same (by omega) fun H3 t2 q2 h3 => ?_
          have q12 := q1.trans q2
          refine cat_tup (a := l) (b := t2) (q12 _ _ (s2 _ _ hl)) h3 (by rw [List.length_map, List.length_replicate]; omega) fun H4 t3 q3 h4 => ?_
          have q13 := q12.trans q3
          unfold tNoPart
          refine ⟨_, rfl, (p'.b.length : Int), hat, ?_⟩
          refine slice_tup h4 fun H5 t4 q4 h5 => ?_
          have h5 : H5 t4 = some (.tup (cutV ((trim p'.b).map V.int ++ List.replicate W (V.int 0)) none (some (p'.b.length : Int)))) := h5
          rw [pad_side rfl (by omega)] at h5
          have q14 := q13.trans q4
          refine ⟨t4, _, rfl, sqT h5, fun t5 nt5 => ?_⟩
          have q5 := same_upd (o := .tup (p'.b.map V.int).reverse) nt5
          have q15 := q14.trans q5
          have h6 : upd H5 t5 (.tup (p'.b.map V.int).reverse) t5 = some (.tup (p'.b.map V.int).reverse) := upd_same
          generalize upd H5 t5 (.tup (p'.b.map V.int).reverse) = H6 at q5 q15 h6
          -- after
          refine ⟨_, rfl, le_line (show 1 ≤ 100000 by decide), fun t6 nt6 => ⟨_, rfl, ?_⟩⟩
          have q6 := same_upd (o := .tup [.int 0]) nt6
          refine rep_tup (l := t6) (k := W) upd_same (by omega) fun H7 t7 q7 h7 => ?_
          have q67 := q6.trans q7
          refine cat_tup (a := r) (b := t7) (q67 _ _ (q15 _ _ (s2 _ _ hr0))) h7 (by rw [List.length_map, List.length_replicate]; omega) fun H8 t8 q8 h8 => ?_
          refine ⟨_, rfl, _, rfl, _, (p'.b.length : Int), rfl, hat, _, _, rfl, rfl, (p'.c.length : Int), (show V.int ((W : Int) - (p'.b.length : Int) - 1) = V.int (p'.c.length : Int) from congrArg V.int (by omega)), ?_⟩
          refine slice_tup h8 fun H9 t9 q9 h9 => ?_
          have h9 : H9 t9 = some (.tup (cutV ((trim p'.c).map V.int ++ List.replicate W (V.int 0)) none (some (p'.c.length : Int)))) := h9
          rw [pad_side rfl (by omega)] at h9
          have q69 := (q67.trans q8).trans q9
          have q19 := q15.trans q69
          -- floors.append(..)
          have s29 := s2.trans q19
          have hin9 := hin.mono q19
          obtain ⟨pf, hLf, _⟩ := id hin9
          refine ⟨_, rfl, .inl ⟨rfl, _, sqL hLf⟩, _, rfl, _, rfl, _, rfl, _, rfl, t, m, st, p'.a, p'.q, rs, rfl, ht.mono s29, m2, m5, le_line (show 1 ≤ 100000 by decide), fun ta nta => ?_⟩
          have qa := same_upd (o := .tup [.int (m * (p'.q + 1) + p'.a)]) nta
          refine cat_tup (a := t5) (b := ta) (qa _ _ (q69 _ _ h6)) upd_same (by simp; omega) fun Hb tb qb hb => ?_
          have qab := qa.trans qb
          refine ⟨_, rfl, ?_⟩
          refine cat_tup (a := tb) (b := t9) hb (qab _ _ h9) (by simp; omega) fun Hc tc qc hc => ?_
          have qac := qab.trans qc
          have hc : TupI Hc tc (fl (mach m st rs) p') := by
            refine hc.trans ?_
            unfold _root_.K23.fl
            rw [List.map_append, List.map_cons, List.map_reverse, List.append_assoc]
            rfl
          obtain ⟨hin', la⟩ := (hin9.mono qac).snoc hc (qac _ _ hLf)
          refine ⟨L, _, _, rfl, rfl, qac _ _ hLf, ?_, same_over (s29.trans qac) nL, pre ++ [p'], ⟨_, _, _, _, _, _, _, _, rfl, .inr ⟨p', pre, rfl, hat, by rw [lpre]; exact hpse, by rw [lpre]; exact hcse, pcok, pcw⟩⟩, ?_, by rw [List.length_append, lpre]; rfl⟩
          · rw [la, List.length_map, lpre]
            exact lt_line (by omega)
          · rw [List.map_append]
            exact hin'
    · rintro σ H2 ⟨s2, pre, ⟨a, y6, y7, y8, y9, y10, y11, y12, rfl, ha⟩, hin, lpre⟩
      refine ⟨_, rfl, q H2 L s2 ?_⟩
      rcases ha with ⟨e, _⟩ | ⟨p, pre0, epre, hap, ep1, ec1, pok, pw⟩
      · omega
      · have l1 : (csteps (mach m st rs) (cfg p) (n - pre0.length)).length = 1 := by
          have := congrArg List.length ec1
          rw [List.length_append, List.length_map] at this
          rw [epre, List.length_append] at lpre
          simp at lpre
          omega
        rw [_root_.K23.one_place l1, ← epre] at ep1
        rw [ep1]
        exact hin
end
end L2.K23
set_option Elab.async false
set_option linter.all false
set_option maxRecDepth 100000
set_option maxHeartbeats 4000000
/-! What the law compares, as data; the plain part of the law. -/
namespace L2.K23
open PySem PySem.Spec PyProof.Rows
open _root_.K23 (T4 Mach Cfg Plain Trimmed trim strip cnx csteps psteps nx fl cfg Run)
/-! ### data -/
def intsD (f : List Int) : PyData := .tuple (f.map PyData.int)
theorem lay_ints : ∀ f : List Int, PyData.canLayAll0 (f.map PyData.int) = true
  | [] => rfl
  | x :: f => by
    rw [List.map_cons, PyData.canLayAll0, lay_ints f]
    rfl
theorem depth_ints : ∀ f : List Int, PyData.depthAll (f.map PyData.int) = 0
  | [] => rfl
  | x :: f => by
    rw [List.map_cons, PyData.depthAll, depth_ints f]
    rfl
theorem intsD_lay (f : List Int) : (intsD f).canLay0 = true := by
  unfold intsD
  rw [PyData.canLay0]
  exact lay_ints f
theorem intsD_depth (f : List Int) : (intsD f).depth = 1 := by
  unfold intsD
  rw [PyData.depth, depth_ints]
theorem dp_ints {K : PySem.W.Frag} {H : Hp} : ∀ f : List Int, DpAll K H (f.map V.int) (f.map PyData.int)
  | [] => .nil
  | x :: f => .cons (.int x) (dp_ints f)
theorem intsD_dp {K : PySem.W.Frag} {H : Hp} {p : Addr} {f : List Int} (h : TupI H p f) : Dp K H (.ref p) (intsD f) := .tup h.sq (dp_ints f)
def cfgD (c : Cfg) : PyData := .tuple [.int c.q, intsD c.l, .int c.a, intsD c.r]
theorem cfgD_lay (c : Cfg) : (cfgD c).canLay0 = true := by
  unfold cfgD
  rw [PyData.canLay0, PyData.canLayAll0, PyData.canLayAll0, PyData.canLayAll0, PyData.canLayAll0, intsD_lay, intsD_lay]
  rfl
theorem cfgD_depth (c : Cfg) : (cfgD c).depth ≤ 2 := by
  unfold cfgD
  rw [PyData.depth, PyData.depthAll, PyData.depthAll, PyData.depthAll, PyData.depthAll, intsD_depth, intsD_depth]
  simp [PyData.depth, PyData.depthAll]
theorem cfgD_dp {K : PySem.W.Frag} {H : Hp} {p : Addr} {c : Cfg} (h : CfgAt H p c) : Dp K H (.ref p) (cfgD c) := by
  obtain ⟨l, r, h1, h2, h3⟩ := h
  exact .tup (sqT h1) (.cons (.int _) (.cons (intsD_dp h2) (.cons (.int _) (.cons (intsD_dp h3) .nil))))
theorem listD_shaped : ∀ {ds : List PyData}, (∀ d ∈ ds, d.canLay0 = true ∧ d.depth ≤ 2) → PyData.canLayAll0 ds = true ∧ PyData.depthAll ds ≤ 2
  | [], _ => ⟨rfl, Nat.zero_le _⟩
  | d :: ds, h => by
    obtain ⟨h1, h2⟩ := h d (List.mem_cons_self ..)
    obtain ⟨h3, h4⟩ := listD_shaped fun z hz => h z (List.mem_cons_of_mem _ hz)
    rw [PyData.canLayAll0, PyData.depthAll, h1, h3]
    exact ⟨rfl, by omega⟩
theorem list_shaped {ds : List PyData} (h : ∀ d ∈ ds, d.canLay0 = true ∧ d.depth ≤ 2) : SeqAt.shaped (.list ds) = true := by
  obtain ⟨h1, h2⟩ := listD_shaped h
  unfold SeqAt.shaped
  rw [Bool.and_eq_true, PyData.canLay0, PyData.depth]
  exact ⟨h1, decide_eq_true (by omega)⟩
def flsD (fs : List (List Int)) : PyData := .list (fs.map intsD)
theorem flsD_shaped (fs : List (List Int)) : SeqAt.shaped (flsD fs) = true := list_shaped fun d hd => by
  obtain ⟨f, _, rfl⟩ := List.mem_map.mp hd
  exact ⟨intsD_lay f, by rw [intsD_depth]; decide⟩
def cfgsD (cs : List Cfg) : PyData := .list (cs.map cfgD)
theorem cfgsD_shaped (cs : List Cfg) : SeqAt.shaped (cfgsD cs) = true := list_shaped fun d hd => by
  obtain ⟨c, _, rfl⟩ := List.mem_map.mp hd
  exact ⟨cfgD_lay c, cfgD_depth c⟩
theorem dp_all {α : Type} {K : PySem.W.Frag} {H : Hp} {D : α → PyData} {ok : Addr → α → Prop} (dp : ∀ p x, ok p x → Dp K H (.ref p) (D x)) : ∀ {ps : List Addr} {xs : List α}, ps.length = xs.length → (∀ (i : Nat) (p : Addr) (x : α), ps[i]? = some p → xs[i]? = some x → ok p x) → DpAll K H (ps.map V.ref) (xs.map D)
  | [], [], _, _ => .nil
  | [], _ :: _, h, _ => by simp at h
  | _ :: _, [], h, _ => by simp at h
  | p :: ps, x :: xs, h, k => .cons (dp p x (k 0 p x rfl rfl)) (dp_all dp (by simpa using h) fun i q y e1 e2 => k (i + 1) q y e1 e2)
theorem FlsIn.dp {K : PySem.W.Frag} {H : Hp} {L : Addr} {fs : List (List Int)} (h : FlsIn H L fs) : Dp K H (.ref L) (flsD fs) := by
  obtain ⟨ps, h1, h2, h3⟩ := h
  exact .lst (sqL h1) (dp_all (ok := fun p f => TupI H p f) (fun p f h => intsD_dp h) h2 h3)
theorem CfgsIn.dp {K : PySem.W.Frag} {H : Hp} {L : Addr} {cs : List Cfg} (h : CfgsIn H L cs) : Dp K H (.ref L) (cfgsD cs) := by
  obtain ⟨ps, h1, h2, h3⟩ := h
  exact .lst (sqL h1) (dp_all (ok := fun p c => CfgAt H p c) (fun p c h => cfgD_dp h) h2 h3)
theorem tail_get {α : Type} {xs : List α} {i : Nat} : xs.tail[i]? = xs[i + 1]? := by
  cases xs with
  | nil => rfl
  | cons x xs => rfl
/-- x[1:] of a list -/
theorem slice_fls {K : PySem.W.Frag} {H : Hp} {L : Addr} {fs : List (List Int)} {Q : VK} (h : FlsIn H L fs) (q : ∀ H' p, Same H H' → FlsIn H' p fs.tail → Q (.ref p) H') : rSlL K (.ref L) (some 1) none H Q := by
  obtain ⟨ps, h1, h2, h3⟩ := h
  refine ⟨L, _, rfl, sqL h1, fun p np => ?_⟩
  rw [cut_tail, ← List.map_tail]
  have s := same_upd (o := .lst (ps.tail.map V.ref)) np
  refine q _ p s ⟨ps.tail, upd_same, by rw [List.length_tail, List.length_tail, h2], fun i a f e1 e2 => ?_⟩
  rw [tail_get] at e1 e2
  exact s _ _ (h3 (i + 1) a f e1 e2)
theorem slice_cfgs {K : PySem.W.Frag} {H : Hp} {L : Addr} {cs : List Cfg} {Q : VK} (h : CfgsIn H L cs) (q : ∀ H' p, Same H H' → CfgsIn H' p cs.tail → Q (.ref p) H') : rSlL K (.ref L) (some 1) none H Q := by
  obtain ⟨ps, h1, h2, h3⟩ := h
  refine ⟨L, _, rfl, sqL h1, fun p np => ?_⟩
  rw [cut_tail, ← List.map_tail]
  have s := same_upd (o := .lst (ps.tail.map V.ref)) np
  refine q _ p s ⟨ps.tail, upd_same, by rw [List.length_tail, List.length_tail, h2], fun i a c e1 e2 => ?_⟩
  rw [tail_get] at e1 e2
  exact (h3 (i + 1) a c e1 e2).mono s
theorem cut4 (l : List Int) : cutV (l.map V.int) none (some 4) = (l.take 4).map V.int := by
  have e : HT.sIx (l.map V.int).length (l.map V.int).length (some 4) = min 4 l.length := by
    have := HT.sIx_nat (l.map V.int).length (l.map V.int).length 4
    rw [List.length_map] at this ⊢
    exact this
  unfold cutV
  rw [HT.sIx_none, e, Nat.sub_zero, List.drop_zero, List.map_take]
  by_cases c : 4 ≤ l.length
  · rw [Nat.min_eq_left c]
  · rw [Nat.min_eq_right (by omega), List.take_of_length_le (by rw [List.length_map]; omega), List.take_of_length_le (by rw [List.length_map]; omega)]
/-- one value for another -/
theorem cv {i : Nat} {x : V} {σ : St} {H : Hp} {D : St → Hp → Prop} (y : V) (e : x = y) (h : gName i y σ H D) : gName i x σ H D := e ▸ h
/-- the state behind an assignment, spelled out -/
theorem gs {i : Nat} {x : V} {σ : St} {H : Hp} {D : St → Hp → Prop} (σ' : St) (e : σ.set i (some x) = σ') (h : D σ' H) : gName i x σ H D := by
  subst e
  exact h
theorem gsv {i : Nat} {x : V} {σ : St} {H : Hp} {D : St → Hp → Prop} (y : V) (σ' : St) (ex : x = y) (e : σ.set i (some y) = σ') (h : D σ' H) : gName i x σ H D := by
  subst ex
  subst e
  exact h
/-! ### the floor that a configuration stands on -/
def posOf (c : Cfg) (k : Nat) : _root_.K23.Pos := ⟨c.l ++ List.replicate k 0, c.q, c.a, c.r ++ List.replicate k 0⟩
theorem plain_pad {M : Mach} (ok : M.Ok) {l : List Int} {k : Nat} (h : Plain M l) : Plain M (l ++ List.replicate k 0) := _root_.K23.Plain.append.mpr ⟨h, fun x hx => by
  have := List.mem_replicate.mp hx
  have m2 := ok.m2
  omega⟩
theorem posOf_ok {M : Mach} (ok : M.Ok) {c : Cfg} {k : Nat} (h : c.Ok M) : (posOf c k).Ok M := ⟨plain_pad ok h.pl, plain_pad ok h.pr, h.q0, h.q1, h.a0, h.a1⟩
theorem posOf_cfg {c : Cfg} {k : Nat} (hl : Trimmed c.l) (hr : Trimmed c.r) : cfg (posOf c k) = c := by
  obtain ⟨q, l, a, r⟩ := c
  show Cfg.mk q (trim (l ++ List.replicate k 0)) a (trim (r ++ List.replicate k 0)) = _
  rw [_root_.K23.trim_append_zeros, _root_.K23.trim_append_zeros, hl, hr]
theorem head_ne {m st : Int} {rs : List Row3} (ok : (mach m st rs).Ok) {q a : Int} (hq : 0 ≤ q) (ha : 0 ≤ a) : m * (q + 1) + a ≠ 0 := by
  have h := _root_.K23.let_ge ok hq ha
  have h2 := ok.m2
  have h : m ≤ m * (q + 1) + a := h
  have h2 : 2 ≤ m := h2
  omega
theorem strip_line {m st : Int} {rs : List Row3} (ok : (mach m st rs).Ok) {c : Cfg} (h : c.Ok (mach m st rs)) : strip (lineOf m c) = lineOf m c := by
  have := _root_.K23.strip_core (i := 0) (j := 0) h.tl h.tr (head_ne ok h.q0 h.a0)
  rw [List.replicate_zero, List.nil_append, List.append_nil] at this
  exact this
theorem posOf_fl {m st : Int} {rs : List Row3} (ok : (mach m st rs).Ok) {c : Cfg} {k : Nat} (h : c.Ok (mach m st rs)) : List.replicate k 0 ++ strip (lineOf m c) ++ List.replicate k 0 = fl (mach m st rs) (posOf c k) := by
  rw [strip_line ok h]
  unfold lineOf posOf _root_.K23.fl
  show _ = (c.l ++ List.replicate k 0).reverse ++ (m * (c.q + 1) + c.a) :: (c.r ++ List.replicate k 0)
  rw [List.reverse_append, List.reverse_replicate, List.append_assoc, List.append_assoc, List.append_assoc]
  rfl
theorem strip_fl {m st : Int} {rs : List Row3} (ok : (mach m st rs).Ok) {p : _root_.K23.Pos} (h : p.Ok (mach m st rs)) : strip (fl (mach m st rs) p) = lineOf m (cfg p) := by
  obtain ⟨i, ei⟩ := _root_.K23.trim_zeros p.b
  obtain ⟨j, ej⟩ := _root_.K23.trim_zeros p.c
  have := _root_.K23.strip_core (i := i) (j := j) (_root_.K23.trim_trimmed p.b) (_root_.K23.trim_trimmed p.c) (head_ne ok h.q0 h.a0)
  have e : fl (mach m st rs) p = List.replicate i 0 ++ ((trim p.b).reverse ++ (m * (p.q + 1) + p.a) :: trim p.c) ++ List.replicate j 0 := by
    have eb : p.b.reverse = List.replicate i 0 ++ (trim p.b).reverse := by
      conv => lhs; rw [ei]
      rw [List.reverse_append, List.reverse_replicate]
    unfold _root_.K23.fl
    show p.b.reverse ++ (m * (p.q + 1) + p.a) :: p.c = _
    rw [eb]
    conv => lhs; rw [ej]
    rw [List.append_assoc, List.append_assoc, List.append_assoc]
    rfl
  rw [e, this]
  rfl
end L2.K23
set_option Elab.async false
set_option linter.all false
set_option maxRecDepth 100000
set_option maxHeartbeats 4000000
/-! The law. -/
namespace L2.K23
open PySem PySem.Spec PyProof.Rows
open _root_.K23 (T4 Mach Cfg Plain Trimmed trim strip cnx csteps psteps nx fl cfg Run)
section
variable {P : Program} {w : World} {K : PySem.W.Frag} {mg : Str → Option Value} {base : Heap} {C CT CS CL : Addr}
theorem iteBoth {b : Bool} {A G : Prop} (hA : b = true → G → A) (g : G) : if b = true then A else G := by
  by_cases h : b = true
  · rw [if_pos h]
    exact hA h g
  · rw [if_neg h]
    exact g
theorem scLaw : FnScope ["_law_script", "_law_machine", "_law_numbers", "_law_digits_here", "_law_upper", "_law_height", "_law_margin", "_law_stair", "_law_floor", "_law_run", "_law_floors_here", "_law_due", "_law_tiles", "_law_found", "_law_rows", "_law_row"] ["_law_script"] (defScope sLaw) := ⟨rfl, rfl, rfl, by decide +kernel, rfl, by decide +kernel, by decide +kernel⟩
def spLaw (K : PySem.W.Frag) : Sp := fun vs H Q _ => ∃ (p : Addr) (ns : List Int), vs = [.ref p] ∧ SqL K H p (ns.map V.int) ∧ ∀ H', Q (.bl true) H'
theorem ok_law {f : Addr} {fd : FuncData} (F : Fun K "law" "law" sLaw f fd) (B : Bi mg) (TT : TapeTxt K CT) (TS : StripTxt K CS) (T : StairTxt K C)
    (cTape : C8.Cal P w K mg base 5 "_law_tape" (spLawTape CT) []) (cDig : C8.Cal P w K mg base 2 "_law_digits" spLawDigits []) (cCell : C8.Cal P w K mg base 1 "_law_cell" (spLawCell K) []) (cConf : C8.Cal P w K mg base 3 "_law_configuration" (spLawConf CT) [])
    (cTrim : C8.Cal P w K mg base 1 "_law_trim" spLawTrim []) (mStair : C8.Mak P w K mg base 4 "TileStair" C (spStairInit C CT CS CL) []) (cFloor : C8.Met P w K mg base 4 C "floor" (spFloor C CT CS CL) []) (cSteps : C8.Cal P w K mg base 4 "_law_steps" (spLawSteps CT) [])
    (cFloors : C8.Cal P w K mg base 3 "_law_floors" (spLawFloors CT) []) (cWays : C8.Cal P w K mg base 4 "ways" (spWays CL) []) (cIsI : C8.Cal P w K mg base 1 "_law_is_integer" spLawIsInteger []) (cFill : C8.Cal P w K mg base 4 "fill" (spFill CL) [])
    (cNext : C8.Cal P w K mg base 1 "next_floor" spNextFloor []) (cIsF : C8.Cal P w K mg base 2 "is_filling" (spIsFilling CL) []) (cRead : C8.Cal P w K mg base 4 "read_off" (spReadOff C CT CS CL) []) :
    FnOk P w K mg base CX0 6 f fd ["_law_script"] (spLaw K) := by
  refine F.ok scLaw (fun vs H Q E h => ?_) (fun cdv A outer s H vs Q E hr h => ?_)
  · obtain ⟨p, ns, rfl, _⟩ := h
    rfl
  · obtain ⟨p, ns, rfl, hS, q⟩ := h
    have room := room64 hr
    refine ⟨_, pss_cons (ps_set (i := 1) scLaw.nd rfl (Or.inl rfl) (C8.pe_c cTape hr (by decide) (by rfl) (pa_cons (C8.pe_c cDig hr (by decide) (by rfl) (pa_cons (C8.pe_c cCell hr (by decide) (by rfl) (pa_cons (pv 0) (pa_cons pe_int pa_nil))) (pa_cons pe_int (pa_cons pe_int pa_nil)))) (pa_cons pe_int (pa_cons pe_int pa_nil)))))
      (pss_cons (ps_set (i := 2) scLaw.nd rfl (Or.inl rfl) (pe_op op_mod (pe_callTy call_int1 (by rfl) B.int boot_int (pa_cons (C8.pe_c cCell hr (by decide) (by rfl) (pa_cons (pv 0) (pa_cons pe_int pa_nil))) pa_nil)) pe_int))
      (pss_cons (ps_set (i := 3) scLaw.nd rfl (Or.inl rfl) (C8.pe_c cConf hr (by decide) (by rfl) (pa_cons (pv 1) (pa_cons (C8.pe_c cCell hr (by decide) (by rfl) (pa_cons (pv 0) (pa_cons pe_int pa_nil))) pa_nil))))
      (pss_cons (ps_set (i := 4) scLaw.nd rfl (Or.inl rfl) (pe_tup (pa_cons (pe_ix (ix_tupK K) (pv 3) pe_int (fun _ _ => rfl)) (pa_cons (C8.pe_c cTrim hr (by decide) (by rfl) (pa_cons (pe_slice sl_tupA (pe_ix (ix_tupK K) (pv 3) pe_int (fun _ _ => rfl)) po_none (po_some pe_int)) pa_nil))
        (pa_cons (pe_ix (ix_tupK K) (pv 3) pe_int (fun _ _ => rfl)) (pa_cons (C8.pe_c cTrim hr (by decide) (by rfl) (pa_cons (pe_slice sl_tupA (pe_ix (ix_tupK K) (pv 3) pe_int (fun _ _ => rfl)) po_none (po_some pe_int)) pa_nil)) pa_nil))))))
      (pss_cons (ps_set (i := 5) scLaw.nd rfl (Or.inl rfl) (pe_op op_mod (pv 2) pe_int))
      (pss_cons (ps_set (i := 6) scLaw.nd rfl (Or.inl rfl) (pe_ix (ix_listK K) (pe_lst (pa_cons (pv 5) (pa_cons (pe_op op_mod (pe_op op_fdiv (pv 2) pe_int) pe_int) pa_nil))) (pe_op op_mod (pe_op op_fdiv (pv 2) pe_int) pe_int) (fun _ _ => rfl)))
      (pss_cons (ps_set (i := 7) scLaw.nd rfl (Or.inl rfl) (C8.pe_mk mStair hr (by decide) (by rfl) (pa_cons (pv 1) pa_nil)))
      (pss_cons (ps_set (i := 8) scLaw.nd rfl (Or.inl rfl) (C8.pe_mt cFloor hr (by decide) (pv 7) (pa_cons (pv 4) (pa_cons (pv 6) pa_nil))))
      (pss_cons (ps_set (i := 9) scLaw.nd rfl (Or.inl rfl) (C8.pe_c cSteps hr (by decide) (by rfl) (pa_cons (pv 1) (pa_cons (pv 4) (pa_cons (pv 5) pa_nil)))))
      (pss_cons (ps_set (i := 10) scLaw.nd rfl (Or.inl rfl) (C8.pe_c cFloors hr (by decide) (by rfl) (pa_cons (pv 1) (pa_cons (pv 9) (pa_cons (pv 6) (pa_cons (pe_callB call_len_seq (by rfl) B.len PySem.boot_len (pa_cons (pv 8) pa_nil)) pa_nil))))))
      (pss_cons (ps_set (i := 11) scLaw.nd rfl (Or.inl rfl) (pe_callTy call_int1 (by rfl) B.int boot_int (pa_cons (pe_cmpR op_eq (pe_callB call_len_seq (by rfl) B.len PySem.boot_len (pa_cons (pv 10) pa_nil)) (pe_op op_add (pv 5) pe_int) (nomark _)) pa_nil)))
      (pss_cons (ps_set (i := 12) scLaw.nd rfl (Or.inl rfl) (pe_fld (pe_fld (pv 7) rfl) rfl))
      (pss_cons (ps_set (i := 13) scLaw.nd rfl (Or.inl rfl) (C8.pe_c cWays hr (by decide) (by rfl) (pa_cons (pv 12) (pa_cons (pv 8) (pa_cons pe_int (pa_cons pe_int (pa_cons (pv 5) pa_nil)))))))
      (pss_cons (ps_if (PW.pt (pw_or (pt_not (pt_val (C8.pe_c cIsI hr (by decide) (by rfl) (pa_cons (pv 13) pa_nil)))) (pw_or (pt_cmpR op_ne (pv 13) (pv 11) (nomark _))
          (pw_or1 (PW.pt (pw_and (pt_cmpR op_ge (pv 6) (pv 5) (nomark _)) (pw_and1 (pt_cmpR op_ne (pv 11) (pe_callTy call_int1 (by rfl) B.int boot_int (pa_cons (pe_cmpR op_eq (pe_callB call_len_seq (by rfl) B.len PySem.boot_len (pa_cons (pv 9) pa_nil)) (pe_op op_add (pv 5) pe_int) (nomark _)) pa_nil)) (nomark _)))))))))
        (pss_one ps_never) pss_nil)
      (pss_cons (ps_set (i := 14) scLaw.nd rfl (Or.inl rfl) (C8.pe_c cFill hr (by decide) (by rfl) (pa_cons (pv 12) (pa_cons (pv 8) (pa_cons pe_int (pa_cons pe_int (pa_cons (pv 5) pa_nil)))))))
      (pss_cons (ps_if (pt_cmpR op_eq (pv 11) pe_int (nomark _)) (pss_one (ps_ret (pe_cmpR op_isN (pv 14) pe_non (nomark _)))) pss_nil)
      (pss_cons (ps_if (PW.pt (pw_or (pt_not (pt_val (pe_callB call_isi (by rfl) B.isinstance boot_isinstance (pa_cons (pv 14) (pa_cons (pe_bltn (v := .ty "list") (by rfl) B.list boot_list rfl) pa_nil)))))
          (pw_or1 (pt_cmpR (op_neD room) (pe_lc (own := [("_law_row", 15)]) (g := gName 15) (by rfl) scLaw.nd (pi_list (pv 14))
            (blkOk_by (N := ["_law_script", "_law_machine", "_law_numbers", "_law_digits_here", "_law_upper", "_law_height", "_law_margin", "_law_stair", "_law_floor", "_law_run", "_law_floors_here", "_law_due", "_law_tiles", "_law_found", "_law_rows", "_law_row"]) (sc := defScope sLaw) (by decide +kernel))
            (fun _ _ _ _ _ => pg_name (i := 15) scLaw.nd rfl (Or.inl rfl)) (fun _ _ _ _ _ => pts_nil) (fun _ _ _ _ _ => C8.pe_c cNext hr (by decide) (by rfl) (pa_cons (pv 15) pa_nil)))
            (pe_slice sl_list (pv 10) (po_some pe_int) po_none) (by rfl))))) (pss_one ps_never) pss_nil)
      (pss_one (ps_ret (pe_and (pe_cmpR op_isBl (C8.pe_c cIsF hr (by decide) (by rfl) (pa_cons (pv 12) (pa_cons (pv 8) (pa_cons pe_int (pa_cons pe_int (pa_cons (pv 14) pa_nil)))))) pe_bl (nomark _))
        (pe_one (pe_cmpR (op_eqD room) (C8.pe_c cRead hr (by decide) (by rfl) (pa_cons (pv 7) (pa_cons (pv 14) pa_nil))) (pe_slice sl_list (pv 9) (po_some pe_int) po_none) (by rfl)))))))))))))))))))))), ?_⟩
    -- machine
    refine ⟨_, rfl, p, ns, 0, rfl, hS, fun i0 => ⟨i0, 38, rfl, by decide, fun H1 D ds s1 hD len bd => ⟨D, ds, rfl, hD, len, bd, fun H2 t m st rs s2 ht nums => gs [some (.ref p), some (.ref t), none, none, none, none, none, none, none, none, none, none, none, none, none, none] rfl ?_⟩⟩⟩
    have s02 := s1.trans s2
    have mok := nums.mach
    have m2 := nums.m2
    have m5 := nums.m5
    have st1 := nums.s1
    have st4 := nums.s4
    -- numbers
    refine ⟨_, rfl, p, ns, 2, rfl, s02.seq hS, fun i2 => .inl ⟨i2, rfl, _, _, rfl, rfl, (show (0 : Int) < 90000 by decide), ?_⟩⟩
    obtain ⟨n0, en0⟩ : ∃ n0, i2 % 90000 = n0 := ⟨_, rfl⟩
    refine gsv (V.int n0) [some (.ref p), some (.ref t), some (.int n0), none, none, none, none, none, none, none, none, none, none, none, none, none] (congrArg V.int en0) rfl ?_
    have n00 : 0 ≤ n0 := by omega
    -- digits_here
    refine ⟨_, rfl, _, rfl, p, ns, 1, rfl, s02.seq hS, fun i1 => ⟨t, i1, m, st, rs, rfl, ht, nums, fun H3 pc c s3 hc okc lcl lcr => gs [some (.ref p), some (.ref t), some (.int n0), some (.ref pc), none, none, none, none, none, none, none, none, none, none, none, none] rfl ?_⟩⟩
    obtain ⟨lc, rc, hpc, hlc, hrc⟩ := hc
    -- upper
    refine ⟨_, rfl, pc, _, 0, _, rfl, rfl, sqT hpc, atI_nat (j := 0) rfl, _, rfl, pc, _, 1, _, rfl, rfl, sqT hpc, atI_nat (j := 1) rfl, ?_⟩
    unfold tNoPart
    refine ⟨4, rfl, ?_⟩
    refine slice_tup hlc fun H4 z4 s4 h4 => ?_
    rw [cut4] at h4
    refine ⟨z4, c.l.take 4, rfl, .inr h4, by rw [List.length_take]; omega, fun H5 ul s5 hul => ?_⟩
    have s35 := s4.trans s5
    refine ⟨_, rfl, pc, _, 2, _, rfl, rfl, sqT (s35 _ _ hpc), atI_nat (j := 2) rfl, _, rfl, pc, _, 3, _, rfl, rfl, sqT (s35 _ _ hpc), atI_nat (j := 3) rfl, 4, rfl, ?_⟩
    refine slice_tup (s35 _ _ hrc) fun H6 z6 s6 h6 => ?_
    rw [cut4] at h6
    refine ⟨z6, c.r.take 4, rfl, .inr h6, by rw [List.length_take]; omega, fun H7 ur s7 hur => ?_⟩
    refine ⟨le_line (show 4 ≤ 100000 by decide), fun up nup => gs [some (.ref p), some (.ref t), some (.int n0), some (.ref pc), some (.ref up), none, none, none, none, none, none, none, none, none, none, none] rfl ?_⟩
    have sup := same_upd (o := .tup [.int c.q, .ref ul, .int c.a, .ref ur]) nup
    have s58 := (s6.trans s7).trans sup
    obtain ⟨c0, ec0⟩ : ∃ c0 : Cfg, c0 = ⟨c.q, trim (c.l.take 4), c.a, trim (c.r.take 4)⟩ := ⟨_, rfl⟩
    have hc0 : CfgAt (upd H7 up (.tup [.int c.q, .ref ul, .int c.a, .ref ur])) up c0 := by
      rw [ec0]
      exact ⟨ul, ur, upd_same, s58 _ _ hul, sup _ _ hur⟩
    have ok0 : c0.Ok (mach m st rs) := by
      rw [ec0]
      exact ⟨fun x hx => okc.pl x (List.mem_of_mem_take (_root_.K23.trim_mem hx)), fun x hx => okc.pr x (List.mem_of_mem_take (_root_.K23.trim_mem hx)), _root_.K23.trim_trimmed _, _root_.K23.trim_trimmed _, okc.q0, okc.q1, okc.a0, okc.a1⟩
    have l0 : c0.l.length ≤ 4 ∧ c0.r.length ≤ 4 := by
      have h1 := _root_.K23.trim_len (c.l.take 4)
      have h2 := _root_.K23.trim_len (c.r.take 4)
      rw [List.length_take] at h1 h2
      rw [ec0]
      exact ⟨by show (trim (c.l.take 4)).length ≤ 4; omega, by show (trim (c.r.take 4)).length ≤ 4; omega⟩
    obtain ⟨l0l, l0r⟩ := l0
    have s38 := s35.trans s58
    have ht8 := ht.mono (s3.trans s38)
    clear ec0
    generalize upd H7 up (.tup [.int c.q, .ref ul, .int c.a, .ref ur]) = H8 at hc0 sup s58 s38 ht8
    -- height
    obtain ⟨h, eh⟩ : ∃ h : Nat, n0 % 8 = (h : Int) := ⟨(n0 % 8).toNat, by omega⟩
    have h8 : h < 8 := by omega
    refine ⟨_, rfl, _, _, rfl, rfl, (show (0 : Int) < 8 by decide), gsv (V.int (h : Int)) [some (.ref p), some (.ref t), some (.int n0), some (.ref pc), some (.ref up), some (.int (h : Int)), none, none, none, none, none, none, none, none, none, none] (congrArg V.int eh) rfl ?_⟩
    -- margin
    obtain ⟨k, k9, ek⟩ : ∃ k : Nat, k < 9 ∧ atI [V.int (h : Int), V.int (n0 / 8 % 9)] (n0 / 72 % 2) = some (V.int (k : Int)) := by
      rcases (show n0 / 72 % 2 = 0 ∨ n0 / 72 % 2 = 1 by omega) with e | e
      · rw [e]
        exact ⟨h, by omega, rfl⟩
      · rw [e]
        refine ⟨(n0 / 8 % 9).toNat, by omega, ?_⟩
        have : ((n0 / 8 % 9).toNat : Int) = n0 / 8 % 9 := by omega
        rw [this]
        rfl
    refine ⟨_, rfl, _, rfl, _, _, rfl, rfl, ⟨by decide, by decide⟩, _, _, rfl, rfl, (show (0 : Int) < 9 by decide), le_line (show 2 ≤ 100000 by decide), fun Lm nLm => ?_⟩
    refine ⟨_, rfl, _, _, rfl, rfl, ⟨by decide, by decide⟩, _, _, rfl, rfl, (show (0 : Int) < 2 by decide), Lm, _, _, V.int (k : Int), rfl, rfl, sqL upd_same, ek, gs [some (.ref p), some (.ref t), some (.int n0), some (.ref pc), some (.ref up), some (.int (h : Int)), some (.int (k : Int)), none, none, none, none, none, none, none, none, none] rfl ?_⟩
    have sLm := same_upd (o := .lst [.int (h : Int), .int (n0 / 8 % 9)]) nLm
    have hc9 := hc0.mono sLm
    have ht9 := ht8.mono sLm
    have s39 := s38.trans sLm
    -- TileStair(machine)
    refine ⟨_, rfl, ?_⟩
    intro S dS nS ndS nSd
    have sS : Same _ (upd (upd _ dS (.own S)) S (.ins C dS [])) := (same_upd ndS).trans (same_upd (by rw [upd_ne nSd.symm]; exact nS))
    refine ⟨S, dS, t, m, st, rs, rfl, upd_same, ht9.mono sS, nums, fun Ha hSt ka => ⟨rfl, gs [some (.ref p), some (.ref t), some (.int n0), some (.ref pc), some (.ref up), some (.int (h : Int)), some (.int (k : Int)), some (.ref S), none, none, none, none, none, none, none, none] rfl ?_⟩⟩
    have s9a : Same _ Ha := fun b o hb => ka b o (sS b o hb) (ne_of_none hb nS)
    have hca := hc9.mono s9a
    have hta := ht9.mono s9a
    have Mt : (mach m st rs).m = m := rfl
    -- floor
    have pok0 := posOf_ok mok (k := k) ok0
    have ecfg := posOf_cfg (k := k) ok0.tl ok0.tr
    have efl := posOf_fl mok (k := k) ok0
    have estrip := strip_line mok ok0
    have W0 : (posOf c0 k).b.length + 1 + (posOf c0 k).c.length ≤ 27 := by
      show (c0.l ++ List.replicate k 0).length + 1 + (c0.r ++ List.replicate k 0).length ≤ 27
      rw [List.length_append, List.length_append, List.length_replicate]
      omega
    have W0l : (fl (mach m st rs) (posOf c0 k)).length = (posOf c0 k).b.length + 1 + (posOf c0 k).c.length := _root_.K23.fl_length
    have mb : h ≤ k → h ≤ (posOf c0 k).b.length ∧ h ≤ (posOf c0 k).c.length := fun hk => by
      show h ≤ (c0.l ++ List.replicate k 0).length ∧ h ≤ (c0.r ++ List.replicate k 0).length
      rw [List.length_append, List.length_append, List.length_replicate]
      omega
    have kb : k + (trim (posOf c0 k).b).length = (posOf c0 k).b.length := by
      have e : trim (posOf c0 k).b = c0.l := by
        show trim (c0.l ++ List.replicate k 0) = c0.l
        rw [_root_.K23.trim_append_zeros]
        exact ok0.tl
      rw [e]
      show k + c0.l.length = (c0.l ++ List.replicate k 0).length
      rw [List.length_append, List.length_replicate]
      omega
    obtain ⟨dx8, B8, dxb8, L8, g8, _⟩ := id hSt
    refine ⟨_, rfl, S, dx8, _, rfl, g8, by rfl, _, rfl, _, rfl, S, t, up, m, st, rs, c0, k, rfl, hSt, hca, m2, m5, by omega, by omega, by omega, by rw [estrip, lineOf_len]; omega, fun Hb fz sb hfz => gs [some (.ref p), some (.ref t), some (.int n0), some (.ref pc), some (.ref up), some (.int (h : Int)), some (.int (k : Int)), some (.ref S), some (.ref fz), none, none, none, none, none, none, none] rfl ?_⟩
    rw [efl] at hfz
    generalize hp0 : posOf c0 k = p0 at pok0 ecfg efl W0 W0l mb kb hfz
    have hStb := hSt.mono sb
    -- run
    refine ⟨_, rfl, _, rfl, _, rfl, t, up, m, st, rs, c0, h, rfl, hta.mono sb, nums, hca.mono sb, ok0, by omega, by omega, by omega, fun Hc R sc hR => gs [some (.ref p), some (.ref t), some (.int n0), some (.ref pc), some (.ref up), some (.int (h : Int)), some (.int (k : Int)), some (.ref S), some (.ref fz), some (.ref R), none, none, none, none, none, none] rfl ?_⟩
    have hRc : CfgsIn Hc R (csteps (mach m st rs) (cfg p0) h) := by
      rw [ecfg]
      exact hR
    -- floors
    refine ⟨_, rfl, _, rfl, _, rfl, _, rfl, fz, _, rfl, .inr (TupI.sq (sc _ _ hfz)), t, R, m, st, rs, p0, h, k, p0.b.length + 1 + p0.c.length, by rw [List.length_map, W0l]; rfl, (hta.mono sb).mono sc, nums, pok0, by omega, hRc, kb, rfl, by omega, fun Hd L sd hL => gs [some (.ref p), some (.ref t), some (.int n0), some (.ref pc), some (.ref up), some (.int (h : Int)), some (.int (k : Int)), some (.ref S), some (.ref fz), some (.ref R), some (.ref L), none, none, none, none, none] rfl ?_⟩
    -- the rows
    obtain ⟨rows, run, erows, places⟩ := _root_.K23.run_of mok h pok0 (by omega)
    have eL : (fun x => x ∈ _root_.K23.all (mach m st rs) st.toNat) = _root_.K23.IsT (mach m st rs) := funext fun x => propext (_root_.K23.mem_all mok)
    have run' : Run (fun x => x ∈ _root_.K23.all (mach m st rs) st.toNat) (fl (mach m st rs) p0) h rows := by
      rw [eL]
      exact run
    obtain ⟨tlp, etlp⟩ := _root_.K23.psteps_cons (mach m st rs) p0 h
    have lenp : (psteps (mach m st rs) p0 h).length = rows.length + 1 := by
      have := congrArg List.length erows
      rw [List.length_map, List.length_tail, List.length_map] at this
      rw [etlp] at this ⊢
      rw [List.length_cons] at this ⊢
      omega
    obtain ⟨pf, hpf, lpf, _⟩ := id hL
    rw [List.length_map, lenp] at lpf
    -- due
    have edue : (if decide (V.int (((pf.map V.ref).length : Nat) : Int) = V.int ((h : Int) + 1)) = true then (1 : Int) else 0) = if rows.length = h then 1 else 0 := by
      rw [List.length_map, lpf]
      by_cases e : rows.length = h
      · rw [if_pos e, e]
        exact if_pos (decide_eq_true (congrArg V.int (by omega)))
      · rw [if_neg e, if_neg]
        intro z
        have := V.int.inj (of_decide_eq_true z)
        omega
    refine ⟨_, rfl, L, _, rfl, .inl (sqL hpf), _, rfl, _, _, rfl, rfl, rfl, .inr ⟨_, rfl, gsv (V.int (if rows.length = h then 1 else 0)) [some (.ref p), some (.ref t), some (.int n0), some (.ref pc), some (.ref up), some (.int (h : Int)), some (.int (k : Int)), some (.ref S), some (.ref fz), some (.ref R), some (.ref L), some (.int (if rows.length = h then 1 else 0)), none, none, none, none] (congrArg V.int edue) rfl ?_⟩⟩
    -- tiles
    have sbd := sc.trans sd
    have hStd := hStb.mono sbd
    obtain ⟨dx, Bs, dxb, Lt, g1, g2, g3, g4⟩ := id hStd
    refine ⟨_, rfl, S, C, dx, _, _, rfl, g1, T.cl, T.nL, by rfl, Bs, CS, dxb, _, _, rfl, g2, TS.cl, TS.nT, by rfl, gs [some (.ref p), some (.ref t), some (.int n0), some (.ref pc), some (.ref up), some (.int (h : Int)), some (.int (k : Int)), some (.ref S), some (.ref fz), some (.ref R), some (.ref L), some (.int (if rows.length = h then 1 else 0)), some (.ref Lt), none, none, none] rfl ?_⟩
    -- found
    have hfd : TupI Hd fz (fl (mach m st rs) p0) := sbd _ _ hfz
    have lall : (_root_.K23.all (mach m st rs) st.toNat).length ≤ 100 := by
      have h1 := _root_.K23.all_len mok st.toNat
      omega
    have ndall := _root_.K23.all_nodup mok
    refine ⟨_, rfl, _, rfl, _, rfl, Lt, fz, _, _, h, rows, rfl, g3, ndall, lall, hfd, by omega, by omega, by omega, run', fun He se => gs [some (.ref p), some (.ref t), some (.int n0), some (.ref pc), some (.ref up), some (.int (h : Int)), some (.int (k : Int)), some (.ref S), some (.ref fz), some (.ref R), some (.ref L), some (.int (if rows.length = h then 1 else 0)), some (.ref Lt), some (.int (if rows.length = h then 1 else 0)), none, none] rfl ?_⟩
    -- the first test
    refine ⟨_, rfl, _, rfl, _, rfl, iteF ?_⟩
    refine ⟨_, rfl, _, rfl, rfl, _, rfl, iteNS rfl ?_⟩
    have sae := sbd.trans se
    have hRe := hRc.mono (sd.trans se)
    obtain ⟨pr, hpr, lpr, _⟩ := id hRe
    have third : h ≤ k → decide (V.int (((pr.map V.ref).length : Nat) : Int) = V.int ((h : Int) + 1)) = decide (rows.length = h) := fun hk => by
      obtain ⟨hb1, hb2⟩ := mb hk
      have e := _root_.K23.no_out mok pok0 hb1 hb2
      rw [List.length_map, lpr, ← e, lenp]
      by_cases c : rows.length = h
      · rw [decide_eq_true c]
        exact decide_eq_true (congrArg V.int (by omega))
      · rw [decide_eq_false c]
        exact decide_eq_false fun z => c (by have := V.int.inj z; omega)
    refine ⟨_, rfl, _, rfl, _, _, rfl, rfl, _, rfl, ?_⟩
    refine iteBoth (fun hk g => ?_) ?_
    · have hk' : h ≤ k := by
        have := of_decide_eq_true hk
        omega
      refine ⟨_, rfl, _, rfl, R, _, rfl, .inl (sqL hpr), _, rfl, _, _, rfl, rfl, rfl, .inr ⟨_, rfl, rfl, _, rfl, ?_⟩⟩
      refine iteNS ?_ (Eq.mp (if_neg Bool.false_ne_true) g)
      refine congrArg V.int ?_
      refine Eq.trans ?_ (congrArg (fun b : Bool => if b = true then (1 : Int) else 0) (third hk')).symm
      by_cases c : rows.length = h
      · rw [if_pos c, decide_eq_true c]
        rfl
      · rw [if_neg c, decide_eq_false c]
        rfl
    refine iteF ?_
    -- rows = fill(..)
    have hfe : TupI He fz (fl (mach m st rs) p0) := se _ _ hfd
    refine ⟨_, rfl, _, rfl, _, rfl, Lt, fz, _, _, h, rows, rfl, g3.mono se, ndall, lall, hfe, by omega, by omega, by omega, run', fun Hf sf => ⟨fun nf => gs [some (.ref p), some (.ref t), some (.int n0), some (.ref pc), some (.ref up), some (.int (h : Int)), some (.int (k : Int)), some (.ref S), some (.ref fz), some (.ref R), some (.ref L), some (.int (if rows.length = h then 1 else 0)), some (.ref Lt), some (.int (if rows.length = h then 1 else 0)), some .non, none] rfl ?_, fun R2 full hR2 => gs [some (.ref p), some (.ref t), some (.int n0), some (.ref pc), some (.ref up), some (.int (h : Int)), some (.int (k : Int)), some (.ref S), some (.ref fz), some (.ref R), some (.ref L), some (.int (if rows.length = h then 1 else 0)), some (.ref Lt), some (.int (if rows.length = h then 1 else 0)), some (.ref R2), none] rfl ?_⟩⟩
    · refine ⟨_, rfl, rfl, _, rfl, ?_⟩
      rw [if_neg nf]
      exact iteT ⟨_, rfl, rfl, q Hf⟩
    refine ⟨_, rfl, rfl, _, rfl, ?_⟩
    rw [if_pos full]
    refine iteF ?_
    obtain ⟨ps2, hR2l, lps2, hrows⟩ := id hR2
    -- isinstance(rows, list)
    refine ⟨_, rfl, _, _, _, _, true, rfl, .ty _, .base (.lst hR2l), kit_ty (by decide +kernel), _, rfl, iteF ?_⟩
    -- [next_floor(row) for row in rows]
    have small : ∀ (i : Nat) (r : List T4), rows[i]? = some r → r.length ≤ 60 := fun i r hr => by
      have h1 : (rows.map fun r => r.map T4.n)[i]? = some (r.map T4.n) := by
        rw [List.getElem?_map, hr]
        rfl
      rw [erows, tail_get, List.getElem?_map] at h1
      obtain ⟨pp, hpp, epp⟩ := Option.map_eq_some_iff.mp h1
      have h2 := (places pp (List.mem_of_getElem? hpp)).2
      have h3 := congrArg List.length epp
      rw [_root_.K23.fl_length, List.length_map] at h3
      omega
    refine ⟨_, rfl, R2, rfl, ⟨_, sqL hR2l⟩, fun Dn nDn => ?_⟩
    have sDn := same_upd (o := .lst []) nDn
    refine lc_list (K := K) (a := R2) (xs := ps2.map V.ref) (fun j Hb => Same Hf Hb ∧ FlsIn Hb Dn ((rows.take j).map fun r => r.map T4.n)) ⟨sDn, FlsIn.nil upd_same⟩ (fun j Hb _ hb => sqL (hb.1 _ _ hR2l)) (fun j x Hb hx hb => ?_) fun Hg hg => ?_
    · obtain ⟨sfb, hin⟩ := hb
      obtain ⟨pj, hpj, rfl⟩ := addr_get hx
      have lj : j < rows.length := by
        have := (List.getElem?_eq_some_iff.mp hpj).1
        omega
      have hrj : rows[j]? = some rows[j] := List.getElem?_eq_getElem lj
      generalize rows[j] = r at hrj
      refine ⟨rfl, _, rfl, pj, r, rfl, (hrows j pj r hpj hrj).mono sfb, small j r hrj, fun Hc N sbc nN hN => ?_⟩
      have hin' := hin.mono sbc
      obtain ⟨pa, hpa, _⟩ := id hin'
      obtain ⟨hin2, la⟩ := hin'.snoc hN hpa
      refine ⟨_, hpa, ?_, same_over (sfb.trans sbc) nDn, ?_⟩
      · rw [la, List.length_map, List.length_take]
        exact lt_line (by omega)
      · rw [← take_snoc hrj, List.map_append]
        exact hin2
    obtain ⟨sfg, hDn⟩ := hg
    rw [List.length_map, lps2, List.take_length] at hDn
    -- .. != floors[1:]
    have seg : Same He Hg := sf.trans sfg
    refine ⟨_, rfl, 1, rfl, ?_⟩
    refine slice_fls ((hL.mono se).mono seg) fun Hh z sgh hz => ?_
    rw [← erows] at hz
    have eq1 : PyData.eqv (flsD (rows.map fun r => r.map T4.n)) (flsD (rows.map fun r => r.map T4.n)) = true := SeqAt.eqv_refl _ (SeqAt.canLay_of_shaped (flsD_shaped _))
    refine ⟨flsD (rows.map fun r => r.map T4.n), flsD (rows.map fun r => r.map T4.n), (hDn.mono sgh).dp, hz.dp, flsD_shaped _, flsD_shaped _, _, rfl, ?_⟩
    rw [eq1]
    refine iteF ?_
    -- is_filling(..) is True
    have seh := seg.trans sgh
    have hR2h := (hR2.mono sfg).mono sgh
    have fil : _root_.K23.Filled (fun x => x ∈ _root_.K23.all (mach m st rs) st.toNat) (fl (mach m st rs) p0) rows := _root_.K23.run_filled run'
    refine ⟨_, rfl, _, rfl, _, rfl, Lt, fz, R2, _, _, rows, rfl, (g3.mono se).mono seh, (seh _ _ hfe), hR2h, fil, by omega, fun Hi shi => ⟨true, true, rfl, rfl, _, rfl, iteT ?_⟩⟩
    -- read_off(stair, rows) == run[1:]
    have sei := seh.trans shi
    have efull : csteps (mach m st rs) (cfg p0) h = (psteps (mach m st rs) p0 h).map cfg := _root_.K23.full_run (by rw [lenp, full])
    have ltl : ((psteps (mach m st rs) p0 h).map cfg).tail.length = rows.length := by
      rw [List.length_tail, List.length_map, lenp]
      rfl
    refine ⟨_, rfl, _, rfl, S, t, R2, m, st, rs, rows, ((psteps (mach m st rs) p0 h).map cfg).tail, rfl, (hStd.mono se).mono sei, m2, m5, st1, st4, hR2h.mono shi, by omega, ltl, fun i r cc e1 e2 => ?_, fun Hj z2 sij hz2 => ?_⟩
    · rw [tail_get, List.getElem?_map] at e2
      obtain ⟨pp, hpp, rfl⟩ := Option.map_eq_some_iff.mp e2
      have h1 : (rows.map fun r => r.map T4.n)[i]? = some (r.map T4.n) := by
        rw [List.getElem?_map, e1]
        rfl
      rw [erows, tail_get, List.getElem?_map, hpp] at h1
      have h1 : fl (mach m st rs) pp = r.map T4.n := Option.some.inj h1
      obtain ⟨pok, pw⟩ := places pp (List.mem_of_getElem? hpp)
      have t1 := _root_.K23.trim_len pp.b
      have t2 := _root_.K23.trim_len pp.c
      refine ⟨small i r e1, by rw [← h1]; exact strip_fl mok pok, _root_.K23.cfg_ok pok, ?_, ?_⟩
      · show (trim pp.b).length ≤ 100
        omega
      · show (trim pp.c).length ≤ 100
        omega
    · refine ⟨_, rfl, 1, rfl, ?_⟩
      refine slice_cfgs ((hRe.mono sei).mono sij) fun Hk z3 sjk hz3 => ?_
      rw [efull] at hz3
      have eq2 : PyData.eqv (cfgsD ((psteps (mach m st rs) p0 h).map cfg).tail) (cfgsD ((psteps (mach m st rs) p0 h).map cfg).tail) = true := SeqAt.eqv_refl _ (SeqAt.canLay_of_shaped (cfgsD_shaped _))
      refine ⟨cfgsD ((psteps (mach m st rs) p0 h).map cfg).tail, cfgsD ((psteps (mach m st rs) p0 h).map cfg).tail, (hz2.mono sjk).dp, hz3.dp, cfgsD_shaped _, cfgsD_shaped _, ?_⟩
      rw [eq2]
      exact q Hk
end
end L2.K23
set_option Elab.async false
set_option linter.all false
set_option maxRecDepth 100000
set_option maxHeartbeats 4000000
/-! What the top has written, collected; the claim. -/
namespace L2.K23
open PySem PySem.Spec PyProof.Rows
theorem all_mk {l : PySem.W.OpenLaw} {w : World} {K : PySem.W.Frag} {h : Heap} {mg : Str → Option Value} {fa CT CL CS C : Addr} (X : K.In h) (G : h.Ns mainGlobals mg) (hfa : mg "law" = some (.ref fa))
    {f0 : Addr} {od0 an0 : Option Addr} {sl0 : Array (Option Value)} {oc0 kV0 dc0 pm0 cd0 ct0 : Value}
    {f1 : Addr} {od1 an1 : Option Addr} {sl1 : Array (Option Value)} {oc1 kV1 dc1 pm1 cd1 ct1 : Value}
    {f2 : Addr} {od2 an2 : Option Addr} {sl2 : Array (Option Value)} {oc2 kV2 dc2 pm2 cd2 ct2 : Value}
    {f3 : Addr} {od3 an3 : Option Addr} {sl3 : Array (Option Value)} {oc3 kV3 dc3 pm3 cd3 ct3 : Value}
    {f4 : Addr} {od4 an4 : Option Addr} {sl4 : Array (Option Value)} {oc4 kV4 dc4 pm4 cd4 ct4 : Value}
    {f5 : Addr} {od5 an5 : Option Addr} {sl5 : Array (Option Value)} {oc5 kV5 dc5 pm5 cd5 ct5 : Value}
    {f6 : Addr} {od6 an6 : Option Addr} {sl6 : Array (Option Value)} {oc6 kV6 dc6 pm6 cd6 ct6 : Value}
    {f7 : Addr} {od7 an7 : Option Addr} {sl7 : Array (Option Value)} {oc7 kV7 dc7 pm7 cd7 ct7 : Value}
    {f8 : Addr} {od8 an8 : Option Addr} {sl8 : Array (Option Value)} {oc8 kV8 dc8 pm8 cd8 ct8 : Value}
    {f9 : Addr} {od9 an9 : Option Addr} {sl9 : Array (Option Value)} {oc9 kV9 dc9 pm9 cd9 ct9 : Value}
    {f10 : Addr} {od10 an10 : Option Addr} {sl10 : Array (Option Value)} {oc10 kV10 dc10 pm10 cd10 ct10 : Value}
    {f11 : Addr} {od11 an11 : Option Addr} {sl11 : Array (Option Value)} {oc11 kV11 dc11 pm11 cd11 ct11 : Value}
    {f12 : Addr} {od12 an12 : Option Addr} {sl12 : Array (Option Value)} {oc12 kV12 dc12 pm12 cd12 ct12 : Value}
    {f13 : Addr} {od13 an13 : Option Addr} {sl13 : Array (Option Value)} {oc13 kV13 dc13 pm13 cd13 ct13 : Value}
    {f14 : Addr} {od14 an14 : Option Addr} {sl14 : Array (Option Value)} {oc14 kV14 dc14 pm14 cd14 ct14 : Value}
    {f15 : Addr} {od15 an15 : Option Addr} {sl15 : Array (Option Value)} {oc15 kV15 dc15 pm15 cd15 ct15 : Value}
    {f16 : Addr} {od16 an16 : Option Addr} {sl16 : Array (Option Value)} {oc16 kV16 dc16 pm16 cd16 ct16 : Value}
    {f17 : Addr} {od17 an17 : Option Addr} {sl17 : Array (Option Value)} {oc17 kV17 dc17 pm17 cd17 ct17 : Value}
    {f18 : Addr} {od18 an18 : Option Addr} {sl18 : Array (Option Value)} {oc18 kV18 dc18 pm18 cd18 ct18 : Value}
    {f19 : Addr} {od19 an19 : Option Addr} {sl19 : Array (Option Value)} {oc19 kV19 dc19 pm19 cd19 ct19 : Value}
    {f20 : Addr} {od20 an20 : Option Addr} {sl20 : Array (Option Value)} {oc20 kV20 dc20 pm20 cd20 ct20 : Value}
    {f21 : Addr} {od21 an21 : Option Addr} {sl21 : Array (Option Value)} {oc21 kV21 dc21 pm21 cd21 ct21 : Value}
    {f22 : Addr} {od22 an22 : Option Addr} {sl22 : Array (Option Value)} {oc22 kV22 dc22 pm22 cd22 ct22 : Value}
    {f23 : Addr} {od23 an23 : Option Addr} {sl23 : Array (Option Value)} {oc23 kV23 dc23 pm23 cd23 ct23 : Value}
    {f24 : Addr} {od24 an24 : Option Addr} {sl24 : Array (Option Value)} {oc24 kV24 dc24 pm24 cd24 ct24 : Value}
    {f25 : Addr} {od25 an25 : Option Addr} {sl25 : Array (Option Value)} {oc25 kV25 dc25 pm25 cd25 ct25 : Value}
    {f26 : Addr} {od26 an26 : Option Addr} {sl26 : Array (Option Value)} {oc26 kV26 dc26 pm26 cd26 ct26 : Value}
    {f27 : Addr} {od27 an27 : Option Addr} {sl27 : Array (Option Value)} {oc27 kV27 dc27 pm27 cd27 ct27 : Value}
    {f28 : Addr} {od28 an28 : Option Addr} {sl28 : Array (Option Value)} {oc28 kV28 dc28 pm28 cd28 ct28 : Value}
    {f29 : Addr} {od29 an29 : Option Addr} {sl29 : Array (Option Value)} {oc29 kV29 dc29 pm29 cd29 ct29 : Value}
    {f30 : Addr} {od30 an30 : Option Addr} {sl30 : Array (Option Value)} {oc30 kV30 dc30 pm30 cd30 ct30 : Value}
    {f31 : Addr} {od31 an31 : Option Addr} {sl31 : Array (Option Value)} {oc31 kV31 dc31 pm31 cd31 ct31 : Value}
    {f32 : Addr} {od32 an32 : Option Addr} {sl32 : Array (Option Value)} {oc32 kV32 dc32 pm32 cd32 ct32 : Value}
    {f33 : Addr} {od33 an33 : Option Addr} {sl33 : Array (Option Value)} {oc33 kV33 dc33 pm33 cd33 ct33 : Value}
    {f34 : Addr} {od34 an34 : Option Addr} {sl34 : Array (Option Value)} {oc34 kV34 dc34 pm34 cd34 ct34 : Value}
    {f35 : Addr} {od35 an35 : Option Addr} {sl35 : Array (Option Value)} {oc35 kV35 dc35 pm35 cd35 ct35 : Value}
    {f36 : Addr} {od36 an36 : Option Addr} {sl36 : Array (Option Value)} {oc36 kV36 dc36 pm36 cd36 ct36 : Value}
    {f37 : Addr} {od37 an37 : Option Addr} {sl37 : Array (Option Value)} {oc37 kV37 dc37 pm37 cd37 ct37 : Value}
    {f38 : Addr} {od38 an38 : Option Addr} {sl38 : Array (Option Value)} {oc38 kV38 dc38 pm38 cd38 ct38 : Value}
    {t0 : Tok}
    {t1 : Tok}
    {t2 : Tok}
    {t3 : Tok}
    {t4 : Tok}
    {t5 : Tok}
    {t6 : Tok}
    {t7 : Tok}
    (aCCT : PySem.W.nsIn K mainGlobals "Tape" = some (some (.ref CT)))
    (pgCT : PySem.W.plainGet K CT Str.empty = true)
    (hdCT : PySem.W.hasDictIn K CT = true)
    (poCT : PySem.W.plainOver K CT = true)
    (saCT : PySem.W.findIn K (.ref CT) "__setattr__" = some (some (.builtin "object.__setattr__")))
    (mkCT : PySem.W.makesIn K CT = true)
    (kcCT : PySem.W.keepIn K (.ref CT) = true)
    (nCT0 : PySem.W.findIn K (.ref CT) "marks" = some none)
    (nCT1 : PySem.W.findIn K (.ref CT) "states" = some none)
    (nCT2 : PySem.W.findIn K (.ref CT) "_rows" = some none)
    (aCCL : PySem.W.nsIn K mainGlobals "Tiles" = some (some (.ref CL)))
    (pgCL : PySem.W.plainGet K CL Str.empty = true)
    (hdCL : PySem.W.hasDictIn K CL = true)
    (poCL : PySem.W.plainOver K CL = true)
    (saCL : PySem.W.findIn K (.ref CL) "__setattr__" = some (some (.builtin "object.__setattr__")))
    (mkCL : PySem.W.makesIn K CL = true)
    (kcCL : PySem.W.keepIn K (.ref CL) = true)
    (nCL0 : PySem.W.findIn K (.ref CL) "tiles" = some none)
    (nCL1 : PySem.W.findIn K (.ref CL) "_by_sides" = some none)
    (aCCS : PySem.W.nsIn K mainGlobals "Strip" = some (some (.ref CS)))
    (pgCS : PySem.W.plainGet K CS Str.empty = true)
    (hdCS : PySem.W.hasDictIn K CS = true)
    (poCS : PySem.W.plainOver K CS = true)
    (saCS : PySem.W.findIn K (.ref CS) "__setattr__" = some (some (.builtin "object.__setattr__")))
    (mkCS : PySem.W.makesIn K CS = true)
    (kcCS : PySem.W.keepIn K (.ref CS) = true)
    (nCS0 : PySem.W.findIn K (.ref CS) "tiles" = some none)
    (aCC : PySem.W.nsIn K mainGlobals "TileStair" = some (some (.ref C)))
    (pgC : PySem.W.plainGet K C Str.empty = true)
    (hdC : PySem.W.hasDictIn K C = true)
    (poC : PySem.W.plainOver K C = true)
    (saC : PySem.W.findIn K (.ref C) "__setattr__" = some (some (.builtin "object.__setattr__")))
    (mkC : PySem.W.makesIn K C = true)
    (kcC : PySem.W.keepIn K (.ref C) = true)
    (nC0 : PySem.W.findIn K (.ref C) "upper" = some none)
    (nC1 : PySem.W.findIn K (.ref C) "lower" = some none)
    (v0 : PySem.W.nsIn K mainGlobals "MOST_TILES" = some (some (.int 1000 t0)))
    (v1 : PySem.W.nsIn K mainGlobals "MOST_COLOUR" = some (some (.int 999 t1)))
    (v2 : PySem.W.nsIn K mainGlobals "MOST_FLOOR" = some (some (.int 60 t2)))
    (v3 : PySem.W.nsIn K mainGlobals "MOST_ROWS" = some (some (.int 2000 t3)))
    (v4 : PySem.W.nsIn K mainGlobals "MOST_HEIGHT" = some (some (.int 60 t4)))
    (v5 : PySem.W.nsIn K mainGlobals "MOST_FLOORS" = some (some (.int 2000 t5)))
    (v6 : PySem.W.nsIn K mainGlobals "MOST_MARKS" = some (some (.int 16 t6)))
    (v7 : PySem.W.nsIn K mainGlobals "MOST_STATES" = some (some (.int 4000 t7)))
    (z0 : PySem.W.nsIn K mainGlobals "isinstance" = some none)
    (z1 : PySem.W.nsIn K mainGlobals "tuple" = some none)
    (z2 : PySem.W.nsIn K mainGlobals "list" = some none)
    (z3 : PySem.W.nsIn K mainGlobals "int" = some none)
    (z4 : PySem.W.nsIn K mainGlobals "bool" = some none)
    (z5 : PySem.W.nsIn K mainGlobals "len" = some none)
    (z6 : PySem.W.nsIn K mainGlobals "all" = some none)
    (z7 : PySem.W.nsIn K mainGlobals "any" = some none)
    (z8 : PySem.W.nsIn K mainGlobals "min" = some none)
    (z9 : PySem.W.nsIn K mainGlobals "max" = some none)
    (z10 : PySem.W.nsIn K mainGlobals "reversed" = some none)
    (z11 : PySem.W.nsIn K mainGlobals "enumerate" = some none)
    (z12 : PySem.W.nsIn K mainGlobals "sorted" = some none)
    (z13 : PySem.W.nsIn K mainGlobals "sum" = some none)
    (z14 : PySem.W.nsIn K mainGlobals "range" = some none)
    (z15 : PySem.W.nsIn K mainGlobals "zip" = some none)
    (a0 : PySem.W.nsIn K mainGlobals "is_integer" = some (some (.ref f0)))
    (l0 : K.lookup f0 = some ⟨oc0, od0, .func (PySem.W.fnOf "is_integer" "is_integer" (defArgs sIsInteger) (defBody sIsInteger) (defScope sIsInteger) .none kV0 dc0 pm0 an0 cd0 ct0), sl0⟩)
    (c0 : PySem.W.codeIn K cd0 "is_integer" = true)
    (k0 : PySem.W.keepIn K (.ref f0) = true)
    (a1 : PySem.W.nsIn K mainGlobals "_law_is_integer" = some (some (.ref f1)))
    (l1 : K.lookup f1 = some ⟨oc1, od1, .func (PySem.W.fnOf "_law_is_integer" "_law_is_integer" (defArgs sLawIsInteger) (defBody sLawIsInteger) (defScope sLawIsInteger) .none kV1 dc1 pm1 an1 cd1 ct1), sl1⟩)
    (c1 : PySem.W.codeIn K cd1 "_law_is_integer" = true)
    (k1 : PySem.W.keepIn K (.ref f1) = true)
    (a2 : PySem.W.nsIn K mainGlobals "letter_of" = some (some (.ref f2)))
    (l2 : K.lookup f2 = some ⟨oc2, od2, .func (PySem.W.fnOf "letter_of" "letter_of" (defArgs sLetterOf) (defBody sLetterOf) (defScope sLetterOf) .none kV2 dc2 pm2 an2 cd2 ct2), sl2⟩)
    (c2 : PySem.W.codeIn K cd2 "letter_of" = true)
    (k2 : PySem.W.keepIn K (.ref f2) = true)
    (a3 : PySem.W.nsIn K mainGlobals "next_floor" = some (some (.ref f3)))
    (l3 : K.lookup f3 = some ⟨oc3, od3, .func (PySem.W.fnOf "next_floor" "next_floor" (defArgs sNextFloor) (defBody sNextFloor) (defScope sNextFloor) .none kV3 dc3 pm3 an3 cd3 ct3), sl3⟩)
    (c3 : PySem.W.codeIn K cd3 "next_floor" = true)
    (k3 : PySem.W.keepIn K (.ref f3) = true)
    (a4 : PySem.W.nsIn K mainGlobals "_is_tile" = some (some (.ref f4)))
    (l4 : K.lookup f4 = some ⟨oc4, od4, .func (PySem.W.fnOf "_is_tile" "_is_tile" (defArgs sIsTile) (defBody sIsTile) (defScope sIsTile) .none kV4 dc4 pm4 an4 cd4 ct4), sl4⟩)
    (c4 : PySem.W.codeIn K cd4 "_is_tile" = true)
    (k4 : PySem.W.keepIn K (.ref f4) = true)
    (a5 : PySem.W.nsIn K mainGlobals "_check_size" = some (some (.ref f5)))
    (l5 : K.lookup f5 = some ⟨oc5, od5, .func (PySem.W.fnOf "_check_size" "_check_size" (defArgs sCheckSize) (defBody sCheckSize) (defScope sCheckSize) .none kV5 dc5 pm5 an5 cd5 ct5), sl5⟩)
    (c5 : PySem.W.codeIn K cd5 "_check_size" = true)
    (k5 : PySem.W.keepIn K (.ref f5) = true)
    (a6 : PySem.W.nsIn K mainGlobals "trimmed" = some (some (.ref f6)))
    (l6 : K.lookup f6 = some ⟨oc6, od6, .func (PySem.W.fnOf "trimmed" "trimmed" (defArgs sTrimmed) (defBody sTrimmed) (defScope sTrimmed) .none kV6 dc6 pm6 an6 cd6 ct6), sl6⟩)
    (c6 : PySem.W.codeIn K cd6 "trimmed" = true)
    (k6 : PySem.W.keepIn K (.ref f6) = true)
    (a7 : PySem.W.nsIn K mainGlobals "_law_trim" = some (some (.ref f7)))
    (l7 : K.lookup f7 = some ⟨oc7, od7, .func (PySem.W.fnOf "_law_trim" "_law_trim" (defArgs sLawTrim) (defBody sLawTrim) (defScope sLawTrim) .none kV7 dc7 pm7 an7 cd7 ct7), sl7⟩)
    (c7 : PySem.W.codeIn K cd7 "_law_trim" = true)
    (k7 : PySem.W.keepIn K (.ref f7) = true)
    (a8 : PySem.W.nsIn K mainGlobals "without_ends" = some (some (.ref f8)))
    (l8 : K.lookup f8 = some ⟨oc8, od8, .func (PySem.W.fnOf "without_ends" "without_ends" (defArgs sWithoutEnds) (defBody sWithoutEnds) (defScope sWithoutEnds) .none kV8 dc8 pm8 an8 cd8 ct8), sl8⟩)
    (c8 : PySem.W.codeIn K cd8 "without_ends" = true)
    (k8 : PySem.W.keepIn K (.ref f8) = true)
    (a9 : PySem.W.nsIn K mainGlobals "tiles_of" = some (some (.ref f9)))
    (l9 : K.lookup f9 = some ⟨oc9, od9, .func (PySem.W.fnOf "tiles_of" "tiles_of" (defArgs sTilesOf) (defBody sTilesOf) (defScope sTilesOf) .none kV9 dc9 pm9 an9 cd9 ct9), sl9⟩)
    (c9 : PySem.W.codeIn K cd9 "tiles_of" = true)
    (k9 : PySem.W.keepIn K (.ref f9) = true)
    (a10 : PySem.W.nsIn K mainGlobals "_reaching" = some (some (.ref f10)))
    (l10 : K.lookup f10 = some ⟨oc10, od10, .func (PySem.W.fnOf "_reaching" "_reaching" (defArgs sReaching) (defBody sReaching) (defScope sReaching) .none kV10 dc10 pm10 an10 cd10 ct10), sl10⟩)
    (c10 : PySem.W.codeIn K cd10 "_reaching" = true)
    (k10 : PySem.W.keepIn K (.ref f10) = true)
    (a11 : PySem.W.nsIn K mainGlobals "rows_of_any_length" = some (some (.ref f11)))
    (l11 : K.lookup f11 = some ⟨oc11, od11, .func (PySem.W.fnOf "rows_of_any_length" "rows_of_any_length" (defArgs sRowsAny) (defBody sRowsAny) (defScope sRowsAny) .none kV11 dc11 pm11 an11 cd11 ct11), sl11⟩)
    (c11 : PySem.W.codeIn K cd11 "rows_of_any_length" = true)
    (k11 : PySem.W.keepIn K (.ref f11) = true)
    (a12 : PySem.W.nsIn K mainGlobals "rows_on" = some (some (.ref f12)))
    (l12 : K.lookup f12 = some ⟨oc12, od12, .func (PySem.W.fnOf "rows_on" "rows_on" (defArgs sRowsOn) (defBody sRowsOn) (defScope sRowsOn) .none kV12 dc12 pm12 an12 cd12 ct12), sl12⟩)
    (c12 : PySem.W.codeIn K cd12 "rows_on" = true)
    (k12 : PySem.W.keepIn K (.ref f12) = true)
    (a13 : PySem.W.nsIn K mainGlobals "ways" = some (some (.ref f13)))
    (l13 : K.lookup f13 = some ⟨oc13, od13, .func (PySem.W.fnOf "ways" "ways" (defArgs sWays) (defBody sWays) (defScope sWays) .none kV13 dc13 pm13 an13 cd13 ct13), sl13⟩)
    (c13 : PySem.W.codeIn K cd13 "ways" = true)
    (k13 : PySem.W.keepIn K (.ref f13) = true)
    (a14 : PySem.W.nsIn K mainGlobals "is_filling" = some (some (.ref f14)))
    (l14 : K.lookup f14 = some ⟨oc14, od14, .func (PySem.W.fnOf "is_filling" "is_filling" (defArgs sIsFilling) (defBody sIsFilling) (defScope sIsFilling) .none kV14 dc14 pm14 an14 cd14 ct14), sl14⟩)
    (c14 : PySem.W.codeIn K cd14 "is_filling" = true)
    (k14 : PySem.W.keepIn K (.ref f14) = true)
    (a15 : PySem.W.nsIn K mainGlobals "line_of" = some (some (.ref f15)))
    (l15 : K.lookup f15 = some ⟨oc15, od15, .func (PySem.W.fnOf "line_of" "line_of" (defArgs sLineOf) (defBody sLineOf) (defScope sLineOf) .none kV15 dc15 pm15 an15 cd15 ct15), sl15⟩)
    (c15 : PySem.W.codeIn K cd15 "line_of" = true)
    (k15 : PySem.W.keepIn K (.ref f15) = true)
    (a16 : PySem.W.nsIn K mainGlobals "meaning" = some (some (.ref f16)))
    (l16 : K.lookup f16 = some ⟨oc16, od16, .func (PySem.W.fnOf "meaning" "meaning" (defArgs sMeaning) (defBody sMeaning) (defScope sMeaning) .none kV16 dc16 pm16 an16 cd16 ct16), sl16⟩)
    (c16 : PySem.W.codeIn K cd16 "meaning" = true)
    (k16 : PySem.W.keepIn K (.ref f16) = true)
    (a17 : PySem.W.nsIn K mainGlobals "read_off" = some (some (.ref f17)))
    (l17 : K.lookup f17 = some ⟨oc17, od17, .func (PySem.W.fnOf "read_off" "read_off" (defArgs sReadOff) (defBody sReadOff) (defScope sReadOff) .none kV17 dc17 pm17 an17 cd17 ct17), sl17⟩)
    (c17 : PySem.W.codeIn K cd17 "read_off" = true)
    (k17 : PySem.W.keepIn K (.ref f17) = true)
    (a18 : PySem.W.nsIn K mainGlobals "fill" = some (some (.ref f18)))
    (l18 : K.lookup f18 = some ⟨oc18, od18, .func (PySem.W.fnOf "fill" "fill" (defArgs sFill) (defBody sFill) (defScope sFill) .none kV18 dc18 pm18 an18 cd18 ct18), sl18⟩)
    (c18 : PySem.W.codeIn K cd18 "fill" = true)
    (k18 : PySem.W.keepIn K (.ref f18) = true)
    (a19 : PySem.W.nsIn K mainGlobals "_law_cell" = some (some (.ref f19)))
    (l19 : K.lookup f19 = some ⟨oc19, od19, .func (PySem.W.fnOf "_law_cell" "_law_cell" (defArgs sLawCell) (defBody sLawCell) (defScope sLawCell) .none kV19 dc19 pm19 an19 cd19 ct19), sl19⟩)
    (c19 : PySem.W.codeIn K cd19 "_law_cell" = true)
    (k19 : PySem.W.keepIn K (.ref f19) = true)
    (a20 : PySem.W.nsIn K mainGlobals "_law_mixed" = some (some (.ref f20)))
    (l20 : K.lookup f20 = some ⟨oc20, od20, .func (PySem.W.fnOf "_law_mixed" "_law_mixed" (defArgs sLawMixed) (defBody sLawMixed) (defScope sLawMixed) .none kV20 dc20 pm20 an20 cd20 ct20), sl20⟩)
    (c20 : PySem.W.codeIn K cd20 "_law_mixed" = true)
    (k20 : PySem.W.keepIn K (.ref f20) = true)
    (a21 : PySem.W.nsIn K mainGlobals "_law_digits" = some (some (.ref f21)))
    (l21 : K.lookup f21 = some ⟨oc21, od21, .func (PySem.W.fnOf "_law_digits" "_law_digits" (defArgs sLawDigits) (defBody sLawDigits) (defScope sLawDigits) .none kV21 dc21 pm21 an21 cd21 ct21), sl21⟩)
    (c21 : PySem.W.codeIn K cd21 "_law_digits" = true)
    (k21 : PySem.W.keepIn K (.ref f21) = true)
    (a22 : PySem.W.nsIn K mainGlobals "_law_tape" = some (some (.ref f22)))
    (l22 : K.lookup f22 = some ⟨oc22, od22, .func (PySem.W.fnOf "_law_tape" "_law_tape" (defArgs sLawTape) (defBody sLawTape) (defScope sLawTape) .none kV22 dc22 pm22 an22 cd22 ct22), sl22⟩)
    (c22 : PySem.W.codeIn K cd22 "_law_tape" = true)
    (k22 : PySem.W.keepIn K (.ref f22) = true)
    (a23 : PySem.W.nsIn K mainGlobals "_law_configuration" = some (some (.ref f23)))
    (l23 : K.lookup f23 = some ⟨oc23, od23, .func (PySem.W.fnOf "_law_configuration" "_law_configuration" (defArgs sLawConf) (defBody sLawConf) (defScope sLawConf) .none kV23 dc23 pm23 an23 cd23 ct23), sl23⟩)
    (c23 : PySem.W.codeIn K cd23 "_law_configuration" = true)
    (k23 : PySem.W.keepIn K (.ref f23) = true)
    (a24 : PySem.W.nsIn K mainGlobals "_law_next" = some (some (.ref f24)))
    (l24 : K.lookup f24 = some ⟨oc24, od24, .func (PySem.W.fnOf "_law_next" "_law_next" (defArgs sLawNext) (defBody sLawNext) (defScope sLawNext) .none kV24 dc24 pm24 an24 cd24 ct24), sl24⟩)
    (c24 : PySem.W.codeIn K cd24 "_law_next" = true)
    (k24 : PySem.W.keepIn K (.ref f24) = true)
    (a25 : PySem.W.nsIn K mainGlobals "_law_letter" = some (some (.ref f25)))
    (l25 : K.lookup f25 = some ⟨oc25, od25, .func (PySem.W.fnOf "_law_letter" "_law_letter" (defArgs sLawLetter) (defBody sLawLetter) (defScope sLawLetter) .none kV25 dc25 pm25 an25 cd25 ct25), sl25⟩)
    (c25 : PySem.W.codeIn K cd25 "_law_letter" = true)
    (k25 : PySem.W.keepIn K (.ref f25) = true)
    (a26 : PySem.W.nsIn K mainGlobals "_law_steps" = some (some (.ref f26)))
    (l26 : K.lookup f26 = some ⟨oc26, od26, .func (PySem.W.fnOf "_law_steps" "_law_steps" (defArgs sLawSteps) (defBody sLawSteps) (defScope sLawSteps) .none kV26 dc26 pm26 an26 cd26 ct26), sl26⟩)
    (c26 : PySem.W.codeIn K cd26 "_law_steps" = true)
    (k26 : PySem.W.keepIn K (.ref f26) = true)
    (a27 : PySem.W.nsIn K mainGlobals "_law_floors" = some (some (.ref f27)))
    (l27 : K.lookup f27 = some ⟨oc27, od27, .func (PySem.W.fnOf "_law_floors" "_law_floors" (defArgs sLawFloors) (defBody sLawFloors) (defScope sLawFloors) .none kV27 dc27 pm27 an27 cd27 ct27), sl27⟩)
    (c27 : PySem.W.codeIn K cd27 "_law_floors" = true)
    (k27 : PySem.W.keepIn K (.ref f27) = true)
    (a28 : PySem.W.nsIn K mainGlobals "law" = some (some (.ref f28)))
    (l28 : K.lookup f28 = some ⟨oc28, od28, .func (PySem.W.fnOf "law" "law" (defArgs sLaw) (defBody sLaw) (defScope sLaw) .none kV28 dc28 pm28 an28 cd28 ct28), sl28⟩)
    (c28 : PySem.W.codeIn K cd28 "law" = true)
    (k28 : PySem.W.keepIn K (.ref f28) = true)
    (a29 : PySem.W.findIn K (.ref CT) "__init__" = some (some (.ref f29)))
    (i29 : PySem.W.isFn K (.ref f29) = true)
    (l29 : K.lookup f29 = some ⟨oc29, od29, .func (PySem.W.fnOf "__init__" "Tape.__init__" (defArgs sTapeInit) (defBody sTapeInit) (defScope sTapeInit) .none kV29 dc29 pm29 an29 cd29 ct29), sl29⟩)
    (c29 : PySem.W.codeIn K cd29 "Tape.__init__" = true)
    (k29 : PySem.W.keepIn K (.ref f29) = true)
    (a30 : PySem.W.findIn K (.ref CT) "_is_row" = some (some (.ref f30)))
    (i30 : PySem.W.isFn K (.ref f30) = true)
    (l30 : K.lookup f30 = some ⟨oc30, od30, .func (PySem.W.fnOf "_is_row" "Tape._is_row" (defArgs sIsRow) (defBody sIsRow) (defScope sIsRow) .none kV30 dc30 pm30 an30 cd30 ct30), sl30⟩)
    (c30 : PySem.W.codeIn K cd30 "Tape._is_row" = true)
    (k30 : PySem.W.keepIn K (.ref f30) = true)
    (a31 : PySem.W.findIn K (.ref CT) "row" = some (some (.ref f31)))
    (i31 : PySem.W.isFn K (.ref f31) = true)
    (l31 : K.lookup f31 = some ⟨oc31, od31, .func (PySem.W.fnOf "row" "Tape.row" (defArgs sRow) (defBody sRow) (defScope sRow) .none kV31 dc31 pm31 an31 cd31 ct31), sl31⟩)
    (c31 : PySem.W.codeIn K cd31 "Tape.row" = true)
    (k31 : PySem.W.keepIn K (.ref f31) = true)
    (a32 : PySem.W.findIn K (.ref CL) "__init__" = some (some (.ref f32)))
    (i32 : PySem.W.isFn K (.ref f32) = true)
    (l32 : K.lookup f32 = some ⟨oc32, od32, .func (PySem.W.fnOf "__init__" "Tiles.__init__" (defArgs sTilesInit) (defBody sTilesInit) (defScope sTilesInit) .none kV32 dc32 pm32 an32 cd32 ct32), sl32⟩)
    (c32 : PySem.W.codeIn K cd32 "Tiles.__init__" = true)
    (k32 : PySem.W.keepIn K (.ref f32) = true)
    (a33 : PySem.W.findIn K (.ref CL) "fitting" = some (some (.ref f33)))
    (i33 : PySem.W.isFn K (.ref f33) = true)
    (l33 : K.lookup f33 = some ⟨oc33, od33, .func (PySem.W.fnOf "fitting" "Tiles.fitting" (defArgs sFitting) (defBody sFitting) (defScope sFitting) .none kV33 dc33 pm33 an33 cd33 ct33), sl33⟩)
    (c33 : PySem.W.codeIn K cd33 "Tiles.fitting" = true)
    (k33 : PySem.W.keepIn K (.ref f33) = true)
    (a34 : PySem.W.findIn K (.ref CS) "__init__" = some (some (.ref f34)))
    (i34 : PySem.W.isFn K (.ref f34) = true)
    (l34 : K.lookup f34 = some ⟨oc34, od34, .func (PySem.W.fnOf "__init__" "Strip.__init__" (defArgs sStripInit) (defBody sStripInit) (defScope sStripInit) .none kV34 dc34 pm34 an34 cd34 ct34), sl34⟩)
    (c34 : PySem.W.codeIn K cd34 "Strip.__init__" = true)
    (k34 : PySem.W.keepIn K (.ref f34) = true)
    (a35 : PySem.W.findIn K (.ref C) "__init__" = some (some (.ref f35)))
    (i35 : PySem.W.isFn K (.ref f35) = true)
    (l35 : K.lookup f35 = some ⟨oc35, od35, .func (PySem.W.fnOf "__init__" "TileStair.__init__" (defArgs sStairInit) (defBody sStairInit) (defScope sStairInit) .none kV35 dc35 pm35 an35 cd35 ct35), sl35⟩)
    (c35 : PySem.W.codeIn K cd35 "TileStair.__init__" = true)
    (k35 : PySem.W.keepIn K (.ref f35) = true)
    (a36 : PySem.W.findIn K (.ref C) "down" = some (some (.ref f36)))
    (i36 : PySem.W.isFn K (.ref f36) = true)
    (l36 : K.lookup f36 = some ⟨oc36, od36, .func (PySem.W.fnOf "down" "TileStair.down" (defArgs sDown) (defBody sDown) (defScope sDown) .none kV36 dc36 pm36 an36 cd36 ct36), sl36⟩)
    (c36 : PySem.W.codeIn K cd36 "TileStair.down" = true)
    (k36 : PySem.W.keepIn K (.ref f36) = true)
    (a37 : PySem.W.findIn K (.ref C) "up" = some (some (.ref f37)))
    (i37 : PySem.W.isFn K (.ref f37) = true)
    (l37 : K.lookup f37 = some ⟨oc37, od37, .func (PySem.W.fnOf "up" "TileStair.up" (defArgs sUp) (defBody sUp) (defScope sUp) .none kV37 dc37 pm37 an37 cd37 ct37), sl37⟩)
    (c37 : PySem.W.codeIn K cd37 "TileStair.up" = true)
    (k37 : PySem.W.keepIn K (.ref f37) = true)
    (a38 : PySem.W.findIn K (.ref C) "floor" = some (some (.ref f38)))
    (i38 : PySem.W.isFn K (.ref f38) = true)
    (l38 : K.lookup f38 = some ⟨oc38, od38, .func (PySem.W.fnOf "floor" "TileStair.floor" (defArgs sFloor) (defBody sFloor) (defScope sFloor) .none kV38 dc38 pm38 an38 cd38 ct38), sl38⟩)
    (c38 : PySem.W.codeIn K cd38 "TileStair.floor" = true)
    (k38 : PySem.W.keepIn K (.ref f38) = true)
    : ∃ fd : FuncData, (∀ (s : Shared) (v : Value), BindsTo s fd ⟨[v], []⟩ [("_law_script", v)]) ∧ ∀ base : Heap, K.In base → base.Ns mainGlobals mg → FnOk l.prog w K mg base CX0 6 fa fd ["_law_script"] (spLaw K) := by
  have e := hfa.symm.trans (PySem.W.mg_of X G a28)
  cases e
  have B : Bi mg := ⟨PySem.W.mg_none_of X G z0, PySem.W.mg_none_of X G z1, PySem.W.mg_none_of X G z2, PySem.W.mg_none_of X G z3, PySem.W.mg_none_of X G z4, PySem.W.mg_none_of X G z5, PySem.W.mg_none_of X G z6, PySem.W.mg_none_of X G z7, PySem.W.mg_none_of X G z8, PySem.W.mg_none_of X G z9, PySem.W.mg_none_of X G z10, PySem.W.mg_none_of X G z11, PySem.W.mg_none_of X G z12, PySem.W.mg_none_of X G z13, PySem.W.mg_none_of X G z14, PySem.W.mg_none_of X G z15⟩
  have Z : Cs mg := ⟨⟨_, PySem.W.mg_of X G v0, t0, rfl⟩, ⟨_, PySem.W.mg_of X G v1, t1, rfl⟩, ⟨_, PySem.W.mg_of X G v2, t2, rfl⟩, ⟨_, PySem.W.mg_of X G v3, t3, rfl⟩, ⟨_, PySem.W.mg_of X G v4, t4, rfl⟩, ⟨_, PySem.W.mg_of X G v5, t5, rfl⟩, ⟨_, PySem.W.mg_of X G v6, t6, rfl⟩, ⟨_, PySem.W.mg_of X G v7, t7, rfl⟩⟩
  have KCT : Cls K CT := ⟨pgCT, hdCT, poCT, saCT⟩
  have KCL : Cls K CL := ⟨pgCL, hdCL, poCL, saCL⟩
  have KCS : Cls K CS := ⟨pgCS, hdCS, poCS, saCS⟩
  have KC : Cls K C := ⟨pgC, hdC, poC, saC⟩
  have TT : TapeTxt K CT := ⟨KCT, nCT0, nCT1, nCT2⟩
  have TL : TilesTxt K CL := ⟨KCL, nCL0, nCL1⟩
  have TS : StripTxt K CS := ⟨KCS, nCS0⟩
  have TC : StairTxt K C := ⟨KC, nC0, nC1⟩
  have F0 := fun_mk (st := sIsInteger) l0 c0 k0
  have b0 := F0.binds (ps := ["value", "least", "most"]) fun _ _ _ _ _ _ us hl => match us, hl with | [_, _, _], _ => rfl
  have F1 := fun_mk (st := sLawIsInteger) l1 c1 k1
  have b1 := F1.binds (ps := ["_law_actual"]) fun _ _ _ _ _ _ us hl => match us, hl with | [_], _ => rfl
  have F2 := fun_mk (st := sLetterOf) l2 c2 k2
  have b2 := F2.binds (ps := ["marks", "mark", "state"]) fun _ _ _ _ _ _ us hl => match us, hl with | [_, _, _], _ => rfl
  have F3 := fun_mk (st := sNextFloor) l3 c3 k3
  have b3 := F3.binds (ps := ["row"]) fun _ _ _ _ _ _ us hl => match us, hl with | [_], _ => rfl
  have F4 := fun_mk (st := sIsTile) l4 c4 k4
  have b4 := F4.binds (ps := ["value"]) fun _ _ _ _ _ _ us hl => match us, hl with | [_], _ => rfl
  have F5 := fun_mk (st := sCheckSize) l5 c5 k5
  have b5 := F5.binds (ps := ["floor", "height"]) fun _ _ _ _ _ _ us hl => match us, hl with | [_, _], _ => rfl
  have F6 := fun_mk (st := sTrimmed) l6 c6 k6
  have b6 := F6.binds (ps := ["marks"]) fun _ _ _ _ _ _ us hl => match us, hl with | [_], _ => rfl
  have F7 := fun_mk (st := sLawTrim) l7 c7 k7
  have b7 := F7.binds (ps := ["_law_row"]) fun _ _ _ _ _ _ us hl => match us, hl with | [_], _ => rfl
  have F8 := fun_mk (st := sWithoutEnds) l8 c8 k8
  have b8 := F8.binds (ps := ["row"]) fun _ _ _ _ _ _ us hl => match us, hl with | [_], _ => rfl
  have F9 := fun_mk (st := sTilesOf) l9 c9 k9
  have b9 := F9.binds (ps := ["machine"]) fun _ _ _ _ _ _ us hl => match us, hl with | [_], _ => rfl
  have F10 := fun_mk (st := sReaching) l10 c10 k10
  have b10 := F10.binds (ps := ["tiles", "floor", "right"]) fun _ _ _ _ _ _ us hl => match us, hl with | [_, _, _], _ => rfl
  have F11 := fun_mk (st := sRowsAny) l11 c11 k11
  have b11 := F11.binds (ps := ["tiles", "floor", "left", "right"]) fun _ _ _ _ _ _ us hl => match us, hl with | [_, _, _, _], _ => rfl
  have F12 := fun_mk (st := sRowsOn) l12 c12 k12
  have b12 := F12.binds (ps := ["tiles", "floor", "left", "right"]) fun _ _ _ _ _ _ us hl => match us, hl with | [_, _, _, _], _ => rfl
  have F13 := fun_mk (st := sWays) l13 c13 k13
  have b13 := F13.binds (ps := ["tiles", "floor", "left", "right", "height"]) fun _ _ _ _ _ _ us hl => match us, hl with | [_, _, _, _, _], _ => rfl
  have F14 := fun_mk (st := sIsFilling) l14 c14 k14
  have b14 := F14.binds (ps := ["tiles", "floor", "left", "right", "rows"]) fun _ _ _ _ _ _ us hl => match us, hl with | [_, _, _, _, _], _ => rfl
  have F15 := fun_mk (st := sLineOf) l15 c15 k15
  have b15 := F15.binds (ps := ["marks", "configuration"]) fun _ _ _ _ _ _ us hl => match us, hl with | [_, _], _ => rfl
  have F16 := fun_mk (st := sMeaning) l16 c16 k16
  have b16 := F16.binds (ps := ["machine", "line"]) fun _ _ _ _ _ _ us hl => match us, hl with | [_, _], _ => rfl
  have F17 := fun_mk (st := sReadOff) l17 c17 k17
  have b17 := F17.binds (ps := ["stair", "rows"]) fun _ _ _ _ _ _ us hl => match us, hl with | [_, _], _ => rfl
  have F18 := fun_mk (st := sFill) l18 c18 k18
  have b18 := F18.binds (ps := ["tiles", "floor", "left", "right", "height"]) fun _ _ _ _ _ _ us hl => match us, hl with | [_, _, _, _, _], _ => rfl
  have F19 := fun_mk (st := sLawCell) l19 c19 k19
  have b19 := F19.binds (ps := ["_law_script", "_law_k"]) fun _ _ _ _ _ _ us hl => match us, hl with | [_, _], _ => rfl
  have F20 := fun_mk (st := sLawMixed) l20 c20 k20
  have b20 := F20.binds (ps := ["_law_cell_here", "_law_k"]) fun _ _ _ _ _ _ us hl => match us, hl with | [_, _], _ => rfl
  have F21 := fun_mk (st := sLawDigits) l21 c21 k21
  have b21 := F21.binds (ps := ["_law_cell_here", "_law_count", "_law_many"]) fun _ _ _ _ _ _ us hl => match us, hl with | [_, _, _], _ => rfl
  have F22 := fun_mk (st := sLawTape) l22 c22 k22
  have b22 := F22.binds (ps := ["_law_numbers", "_law_most_marks", "_law_most_states"]) fun _ _ _ _ _ _ us hl => match us, hl with | [_, _, _], _ => rfl
  have F23 := fun_mk (st := sLawConf) l23 c23 k23
  have b23 := F23.binds (ps := ["_law_machine", "_law_cell_here"]) fun _ _ _ _ _ _ us hl => match us, hl with | [_, _], _ => rfl
  have F24 := fun_mk (st := sLawNext) l24 c24 k24
  have b24 := F24.binds (ps := ["_law_machine", "_law_configuration_here"]) fun _ _ _ _ _ _ us hl => match us, hl with | [_, _], _ => rfl
  have F25 := fun_mk (st := sLawLetter) l25 c25 k25
  have b25 := F25.binds (ps := ["_law_machine", "_law_mark", "_law_state"]) fun _ _ _ _ _ _ us hl => match us, hl with | [_, _, _], _ => rfl
  have F26 := fun_mk (st := sLawSteps) l26 c26 k26
  have b26 := F26.binds (ps := ["_law_machine", "_law_configuration_here", "_law_steps_here"]) fun _ _ _ _ _ _ us hl => match us, hl with | [_, _, _], _ => rfl
  have F27 := fun_mk (st := sLawFloors) l27 c27 k27
  have b27 := F27.binds (ps := ["_law_machine", "_law_run", "_law_margin", "_law_width"]) fun _ _ _ _ _ _ us hl => match us, hl with | [_, _, _, _], _ => rfl
  have F28 := fun_mk (st := sLaw) l28 c28 k28
  have b28 := F28.binds (ps := ["_law_script"]) fun _ _ _ _ _ _ us hl => match us, hl with | [_], _ => rfl
  have F29 := fun_mk (st := sTapeInit) l29 c29 k29
  have b29 := F29.binds (ps := ["self", "marks", "states", "rows"]) fun _ _ _ _ _ _ us hl => match us, hl with | [_, _, _, _], _ => rfl
  have F30 := fun_mk (st := sIsRow) l30 c30 k30
  have b30 := F30.binds (ps := ["self", "row"]) fun _ _ _ _ _ _ us hl => match us, hl with | [_, _], _ => rfl
  have F31 := fun_mk (st := sRow) l31 c31 k31
  have b31 := F31.binds (ps := ["self", "state", "mark"]) fun _ _ _ _ _ _ us hl => match us, hl with | [_, _, _], _ => rfl
  have F32 := fun_mk (st := sTilesInit) l32 c32 k32
  have b32 := F32.binds (ps := ["self", "tiles"]) fun _ _ _ _ _ _ us hl => match us, hl with | [_, _], _ => rfl
  have F33 := fun_mk (st := sFitting) l33 c33 k33
  have b33 := F33.binds (ps := ["self", "west", "south"]) fun _ _ _ _ _ _ us hl => match us, hl with | [_, _, _], _ => rfl
  have F34 := fun_mk (st := sStripInit) l34 c34 k34
  have b34 := F34.binds (ps := ["self", "tiles"]) fun _ _ _ _ _ _ us hl => match us, hl with | [_, _], _ => rfl
  have F35 := fun_mk (st := sStairInit) l35 c35 k35
  have b35 := F35.binds (ps := ["self", "machine"]) fun _ _ _ _ _ _ us hl => match us, hl with | [_, _], _ => rfl
  have F36 := fun_mk (st := sDown) l36 c36 k36
  have b36 := F36.binds (ps := ["self", "configuration"]) fun _ _ _ _ _ _ us hl => match us, hl with | [_, _], _ => rfl
  have F37 := fun_mk (st := sUp) l37 c37 k37
  have b37 := F37.binds (ps := ["self", "configuration"]) fun _ _ _ _ _ _ us hl => match us, hl with | [_, _], _ => rfl
  have F38 := fun_mk (st := sFloor) l38 c38 k38
  have b38 := F38.binds (ps := ["self", "configuration", "margin"]) fun _ _ _ _ _ _ us hl => match us, hl with | [_, _, _], _ => rfl
  refine ⟨PySem.W.fnOf "law" "law" (defArgs sLaw) (defBody sLaw) (defScope sLaw) .none kV28 dc28 pm28 an28 cd28 ct28, fun s v => .of_eq rfl, fun base _ _ => ?_⟩
  have cIsInt : C8.Cal l.prog w K mg base 1 "is_integer" spIsInteger [] := ⟨_, _, _, [], ok_isInteger F0 B, PySem.W.mg_of X G a0, k0, b0, .nil⟩
  have cLIsInt : C8.Cal l.prog w K mg base 1 "_law_is_integer" spLawIsInteger [] := ⟨_, _, _, [], ok_lawIsInteger F1 B, PySem.W.mg_of X G a1, k1, b1, .nil⟩
  have cLetter : C8.Cal l.prog w K mg base 1 "letter_of" spLetterOf [] := ⟨_, _, _, [], ok_letterOf F2, PySem.W.mg_of X G a2, k2, b2, .nil⟩
  have cNext : C8.Cal l.prog w K mg base 1 "next_floor" spNextFloor [] := ⟨_, _, _, [], ok_nextFloor F3 B, PySem.W.mg_of X G a3, k3, b3, .nil⟩
  have cIsTile : C8.Cal l.prog w K mg base 1 "_is_tile" spIsTile [] := ⟨_, _, _, [], ok_isTile F4 B Z, PySem.W.mg_of X G a4, k4, b4, .nil⟩
  have cSize : C8.Cal l.prog w K mg base 1 "_check_size" spCheckSize [] := ⟨_, _, _, [], ok_checkSize F5 B Z, PySem.W.mg_of X G a5, k5, b5, .nil⟩
  have cTrimmed : C8.Cal l.prog w K mg base 1 "trimmed" spTrimmed [] := ⟨_, _, _, [], ok_trimmed F6 B, PySem.W.mg_of X G a6, k6, b6, .nil⟩
  have cTrim : C8.Cal l.prog w K mg base 1 "_law_trim" spLawTrim [] := ⟨_, _, _, [], ok_lawTrim F7 B, PySem.W.mg_of X G a7, k7, b7, .nil⟩
  have cEnds : C8.Cal l.prog w K mg base 1 "without_ends" spWithoutEnds [] := ⟨_, _, _, [], ok_withoutEnds F8 B, PySem.W.mg_of X G a8, k8, b8, .nil⟩
  have mRow : C8.Met l.prog w K mg base 2 CT "row" (spRow CT) [] := ⟨_, _, _, [], KCT, ⟨a31, i31, k31⟩, ok_row F31 TT cIsInt, b31, .nil⟩
  have mIsRow : C8.Met l.prog w K mg base 2 CT "_is_row" (spIsRow CT) [] := ⟨_, _, _, [], KCT, ⟨a30, i30, k30⟩, ok_isRow F30 TT B cIsInt, b30, .nil⟩
  have kTape : C8.Mak l.prog w K mg base 3 "Tape" CT (spTapeInit CT) [] := ⟨_, _, _, [], ⟨mkCT, a29, i29, kcCT⟩, ok_tapeInit F29 TT B Z cIsInt mIsRow, PySem.W.mg_of X G aCCT, b29, .nil⟩
  have cTilesOf : C8.Cal l.prog w K mg base 3 "tiles_of" (spTilesOf CT) [] := ⟨_, _, _, [], ok_tilesOf F9 TT B cLetter mRow, PySem.W.mg_of X G a9, k9, b9, .nil⟩
  have mFit : C8.Met l.prog w K mg base 1 CL "fitting" (spFitting CL) [] := ⟨_, _, _, [], KCL, ⟨a33, i33, k33⟩, ok_fitting F33 TL, b33, .nil⟩
  have kTiles : C8.Mak l.prog w K mg base 2 "Tiles" CL (spTilesInit CL) [] := ⟨_, _, _, [], ⟨mkCL, a32, i32, kcCL⟩, ok_tilesInit F32 TL B Z cIsTile, PySem.W.mg_of X G aCCL, b32, .nil⟩
  have kStrip : C8.Mak l.prog w K mg base 1 "Strip" CS (spStripInit CS CL) [] := ⟨_, _, _, [], ⟨mkCS, a34, i34, kcCS⟩, ok_stripInit F34 TS TL, PySem.W.mg_of X G aCCS, b34, .nil⟩
  have kStair : C8.Mak l.prog w K mg base 4 "TileStair" C (spStairInit C CT CS CL) [] := ⟨_, _, _, [], ⟨mkC, a35, i35, kcC⟩, ok_stairInit F35 TC cTilesOf kStrip kTiles, PySem.W.mg_of X G aCC, b35, .nil⟩
  have cReach : C8.Cal l.prog w K mg base 1 "_reaching" (spReaching CL) [] := ⟨_, _, _, [], ok_reaching F10 TL B, PySem.W.mg_of X G a10, k10, b10, .nil⟩
  have cAny : C8.Cal l.prog w K mg base 2 "rows_of_any_length" (spRows CL) [] := ⟨_, _, _, [], ok_rowsAny F11 TL B Z cReach mFit, PySem.W.mg_of X G a11, k11, b11, .nil⟩
  have cOn : C8.Cal l.prog w K mg base 3 "rows_on" (spRows CL) [] := ⟨_, _, _, [], ok_rowsOn F12 B Z cAny, PySem.W.mg_of X G a12, k12, b12, .nil⟩
  have cWays : C8.Cal l.prog w K mg base 4 "ways" (spWays CL) [] := ⟨_, _, _, [], ok_ways F13 B Z cSize cOn cNext, PySem.W.mg_of X G a13, k13, b13, .nil⟩
  have cIsF : C8.Cal l.prog w K mg base 2 "is_filling" (spIsFilling CL) [] := ⟨_, _, _, [], ok_isFilling F14 TL B cNext, PySem.W.mg_of X G a14, k14, b14, .nil⟩
  have cLine : C8.Cal l.prog w K mg base 2 "line_of" spLineOf [] := ⟨_, _, _, [], ok_lineOf F15 cEnds cLetter, PySem.W.mg_of X G a15, k15, b15, .nil⟩
  have mDown : C8.Met l.prog w K mg base 3 C "down" (spDown C CT CS CL) [] := ⟨_, _, _, [], KC, ⟨a36, i36, k36⟩, ok_down F36 TC TT cLine, b36, .nil⟩
  have mFloor : C8.Met l.prog w K mg base 4 C "floor" (spFloor C CT CS CL) [] := ⟨_, _, _, [], KC, ⟨a38, i38, k38⟩, ok_floor F38 mDown, b38, .nil⟩
  have cMean : C8.Cal l.prog w K mg base 2 "meaning" (spMeaning CT) [] := ⟨_, _, _, [], ok_meaning F16 TT B cTrimmed, PySem.W.mg_of X G a16, k16, b16, .nil⟩
  have mUp : C8.Met l.prog w K mg base 3 C "up" (spUp C CT CS CL) [] := ⟨_, _, _, [], KC, ⟨a37, i37, k37⟩, ok_up F37 TC cMean, b37, .nil⟩
  have cRead : C8.Cal l.prog w K mg base 4 "read_off" (spReadOff C CT CS CL) [] := ⟨_, _, _, [], ok_readOff F17 mUp cEnds cNext, PySem.W.mg_of X G a17, k17, b17, .nil⟩
  have cFill : C8.Cal l.prog w K mg base 4 "fill" (spFill CL) [] := ⟨_, _, _, [], ok_fill F18 B Z cSize cOn cNext, PySem.W.mg_of X G a18, k18, b18, .nil⟩
  have cCell : C8.Cal l.prog w K mg base 1 "_law_cell" (spLawCell K) [] := ⟨_, _, _, [], ok_lawCell F19 B, PySem.W.mg_of X G a19, k19, b19, .nil⟩
  have cMixed : C8.Cal l.prog w K mg base 1 "_law_mixed" spLawMixed [] := ⟨_, _, _, [], ok_lawMixed F20 B, PySem.W.mg_of X G a20, k20, b20, .nil⟩
  have cDig : C8.Cal l.prog w K mg base 2 "_law_digits" spLawDigits [] := ⟨_, _, _, [], ok_lawDigits F21 B cMixed, PySem.W.mg_of X G a21, k21, b21, .nil⟩
  have cTape : C8.Cal l.prog w K mg base 5 "_law_tape" (spLawTape CT) [] := ⟨_, _, _, [], ok_lawTape F22 B kTape, PySem.W.mg_of X G a22, k22, b22, .nil⟩
  have cConf : C8.Cal l.prog w K mg base 3 "_law_configuration" (spLawConf CT) [] := ⟨_, _, _, [], ok_lawConf F23 TT cDig cTrim, PySem.W.mg_of X G a23, k23, b23, .nil⟩
  have cNx : C8.Cal l.prog w K mg base 3 "_law_next" (spLawNext CT) [] := ⟨_, _, _, [], ok_lawNext F24 mRow cTrim, PySem.W.mg_of X G a24, k24, b24, .nil⟩
  have cLLetter : C8.Cal l.prog w K mg base 1 "_law_letter" (spLawLetter CT) [] := ⟨_, _, _, [], ok_lawLetter F25 TT, PySem.W.mg_of X G a25, k25, b25, .nil⟩
  have cSteps : C8.Cal l.prog w K mg base 4 "_law_steps" (spLawSteps CT) [] := ⟨_, _, _, [], ok_lawSteps F26 B cNx, PySem.W.mg_of X G a26, k26, b26, .nil⟩
  have cFloors : C8.Cal l.prog w K mg base 3 "_law_floors" (spLawFloors CT) [] := ⟨_, _, _, [], ok_lawFloors F27 B mRow cLLetter, PySem.W.mg_of X G a27, k27, b27, .nil⟩
  exact ok_law F28 B TT TS TC cTape cDig cCell cConf cTrim kStair mFloor cSteps cFloors cWays cLIsInt cFill cNext cIsF cRead
theorem walk {l : PySem.W.OpenLaw} {q : Program} {loose : List Str} {XP : (Str → Option Value) → Heap → Prop} {YP : World → Heap → Prop} {d : DefRec} {K : Params → PySem.W.Frag} (hn : l.most = some 63) (hdf : d.params.defaults = [])
    (hY : ∀ (w : World) (h : Heap), YP w h → (K w.params).In h)
    (F : ∀ (w : World) (mg : Str → Option Value) (fa : Addr) (h : Heap), (K w.params).In h → h.Ns mainGlobals mg → mg d.name = some (.ref fa) →
      ∃ fd : FuncData, (∀ (s : Shared) (u : Value), BindsTo s fd ⟨[u], []⟩ [("_law_script", u)]) ∧ ∀ base : Heap, (K w.params).In base → base.Ns mainGlobals mg → FnOk l.prog w (K w.params) mg base CX0 6 fa fd ["_law_script"] (spLaw (K w.params))) :
    PySem.W.WalkO q loose XP YP l.row.toRowW d [] (fun f vs => PySem.call f vs) :=
  L2.walk_of (n := 63) (k := 6) (x := "_law_script") (CX := fun _ => CX0) (sp := fun w => spLaw (K w.params)) hn (by decide) hdf ⟨rfl, by decide, by decide⟩ hY F (fun _ _ a ns hl _ hS => ⟨a, ns, rfl, hS, fun _ => rfl⟩) fun _ _ _ _ _ z => z
end L2.K23
set_option Elab.async false
set_option linter.all false
open PySem PySem.W PyProof.Rows
set_option maxRecDepth 100000 in
set_option maxHeartbeats 0 in
theorem PySem.Challenge.cw_stepdown_k23_whole_one_way_to_fill_the_c_holds : PySem.Challenge.rw_stepdown_k23_whole_one_way_to_fill_the_c.Holds := by
  w_on; o_law; k_head; (case hw => w_witness2)
  k_fill
  refine L2.K23.walk (l := PySem.Challenge.rw_stepdown_k23_whole_one_way_to_fill_the_c) rfl rfl (fun w h Y => PySem.W.kIn_of Y) ?F
  case F =>
    intro w mg fa h KX G hmg
    refine' L2.K23.all_mk KX G hmg ?aCCT ?pgCT ?hdCT ?poCT ?saCT ?mkCT ?kcCT ?nCT0 ?nCT1 ?nCT2 ?aCCL ?pgCL ?hdCL ?poCL ?saCL ?mkCL ?kcCL ?nCL0 ?nCL1 ?aCCS ?pgCS ?hdCS ?poCS ?saCS ?mkCS ?kcCS ?nCS0 ?aCC ?pgC ?hdC ?poC ?saC ?mkC ?kcC ?nC0 ?nC1 ?v0 ?v1 ?v2 ?v3 ?v4 ?v5 ?v6 ?v7 ?z0 ?z1 ?z2 ?z3 ?z4 ?z5 ?z6 ?z7 ?z8 ?z9 ?z10 ?z11 ?z12 ?z13 ?z14 ?z15 ?a0 ?l0 ?c0 ?k0 ?a1 ?l1 ?c1 ?k1 ?a2 ?l2 ?c2 ?k2 ?a3 ?l3 ?c3 ?k3 ?a4 ?l4 ?c4 ?k4 ?a5 ?l5 ?c5 ?k5 ?a6 ?l6 ?c6 ?k6 ?a7 ?l7 ?c7 ?k7 ?a8 ?l8 ?c8 ?k8 ?a9 ?l9 ?c9 ?k9 ?a10 ?l10 ?c10 ?k10 ?a11 ?l11 ?c11 ?k11 ?a12 ?l12 ?c12 ?k12 ?a13 ?l13 ?c13 ?k13 ?a14 ?l14 ?c14 ?k14 ?a15 ?l15 ?c15 ?k15 ?a16 ?l16 ?c16 ?k16 ?a17 ?l17 ?c17 ?k17 ?a18 ?l18 ?c18 ?k18 ?a19 ?l19 ?c19 ?k19 ?a20 ?l20 ?c20 ?k20 ?a21 ?l21 ?c21 ?k21 ?a22 ?l22 ?c22 ?k22 ?a23 ?l23 ?c23 ?k23 ?a24 ?l24 ?c24 ?k24 ?a25 ?l25 ?c25 ?k25 ?a26 ?l26 ?c26 ?k26 ?a27 ?l27 ?c27 ?k27 ?a28 ?l28 ?c28 ?k28 ?a29 ?i29 ?l29 ?c29 ?k29 ?a30 ?i30 ?l30 ?c30 ?k30 ?a31 ?i31 ?l31 ?c31 ?k31 ?a32 ?i32 ?l32 ?c32 ?k32 ?a33 ?i33 ?l33 ?c33 ?k33 ?a34 ?i34 ?l34 ?c34 ?k34 ?a35 ?i35 ?l35 ?c35 ?k35 ?a36 ?i36 ?l36 ?c36 ?k36 ?a37 ?i37 ?l37 ?c37 ?k37 ?a38 ?i38 ?l38 ?c38 ?k38
    (case aCCT => k_is)
    (case pgCT => k_is)
    (case hdCT => k_is)
    (case poCT => k_is)
    (case saCT => k_is)
    (case mkCT => k_is)
    (case kcCT => k_is)
    (case nCT0 => k_is)
    (case nCT1 => k_is)
    (case nCT2 => k_is)
    (case aCCL => k_is)
    (case pgCL => k_is)
    (case hdCL => k_is)
    (case poCL => k_is)
    (case saCL => k_is)
    (case mkCL => k_is)
    (case kcCL => k_is)
    (case nCL0 => k_is)
    (case nCL1 => k_is)
    (case aCCS => k_is)
    (case pgCS => k_is)
    (case hdCS => k_is)
    (case poCS => k_is)
    (case saCS => k_is)
    (case mkCS => k_is)
    (case kcCS => k_is)
    (case nCS0 => k_is)
    (case aCC => k_is)
    (case pgC => k_is)
    (case hdC => k_is)
    (case poC => k_is)
    (case saC => k_is)
    (case mkC => k_is)
    (case kcC => k_is)
    (case nC0 => k_is)
    (case nC1 => k_is)
    (case v0 => k_is)
    (case v1 => k_is)
    (case v2 => k_is)
    (case v3 => k_is)
    (case v4 => k_is)
    (case v5 => k_is)
    (case v6 => k_is)
    (case v7 => k_is)
    (case z0 => k_is)
    (case z1 => k_is)
    (case z2 => k_is)
    (case z3 => k_is)
    (case z4 => k_is)
    (case z5 => k_is)
    (case z6 => k_is)
    (case z7 => k_is)
    (case z8 => k_is)
    (case z9 => k_is)
    (case z10 => k_is)
    (case z11 => k_is)
    (case z12 => k_is)
    (case z13 => k_is)
    (case z14 => k_is)
    (case z15 => k_is)
    (case a0 => k_is)
    (case l0 => k_is)
    (case c0 => k_is)
    (case k0 => k_is)
    (case a1 => k_is)
    (case l1 => k_is)
    (case c1 => k_is)
    (case k1 => k_is)
    (case a2 => k_is)
    (case l2 => k_is)
    (case c2 => k_is)
    (case k2 => k_is)
    (case a3 => k_is)
    (case l3 => k_is)
    (case c3 => k_is)
    (case k3 => k_is)
    (case a4 => k_is)
    (case l4 => k_is)
    (case c4 => k_is)
    (case k4 => k_is)
    (case a5 => k_is)
    (case l5 => k_is)
    (case c5 => k_is)
    (case k5 => k_is)
    (case a6 => k_is)
    (case l6 => k_is)
    (case c6 => k_is)
    (case k6 => k_is)
    (case a7 => k_is)
    (case l7 => k_is)
    (case c7 => k_is)
    (case k7 => k_is)
    (case a8 => k_is)
    (case l8 => k_is)
    (case c8 => k_is)
    (case k8 => k_is)
    (case a9 => k_is)
    (case l9 => k_is)
    (case c9 => k_is)
    (case k9 => k_is)
    (case a10 => k_is)
    (case l10 => k_is)
    (case c10 => k_is)
    (case k10 => k_is)
    (case a11 => k_is)
    (case l11 => k_is)
    (case c11 => k_is)
    (case k11 => k_is)
    (case a12 => k_is)
    (case l12 => k_is)
    (case c12 => k_is)
    (case k12 => k_is)
    (case a13 => k_is)
    (case l13 => k_is)
    (case c13 => k_is)
    (case k13 => k_is)
    (case a14 => k_is)
    (case l14 => k_is)
    (case c14 => k_is)
    (case k14 => k_is)
    (case a15 => k_is)
    (case l15 => k_is)
    (case c15 => k_is)
    (case k15 => k_is)
    (case a16 => k_is)
    (case l16 => k_is)
    (case c16 => k_is)
    (case k16 => k_is)
    (case a17 => k_is)
    (case l17 => k_is)
    (case c17 => k_is)
    (case k17 => k_is)
    (case a18 => k_is)
    (case l18 => k_is)
    (case c18 => k_is)
    (case k18 => k_is)
    (case a19 => k_is)
    (case l19 => k_is)
    (case c19 => k_is)
    (case k19 => k_is)
    (case a20 => k_is)
    (case l20 => k_is)
    (case c20 => k_is)
    (case k20 => k_is)
    (case a21 => k_is)
    (case l21 => k_is)
    (case c21 => k_is)
    (case k21 => k_is)
    (case a22 => k_is)
    (case l22 => k_is)
    (case c22 => k_is)
    (case k22 => k_is)
    (case a23 => k_is)
    (case l23 => k_is)
    (case c23 => k_is)
    (case k23 => k_is)
    (case a24 => k_is)
    (case l24 => k_is)
    (case c24 => k_is)
    (case k24 => k_is)
    (case a25 => k_is)
    (case l25 => k_is)
    (case c25 => k_is)
    (case k25 => k_is)
    (case a26 => k_is)
    (case l26 => k_is)
    (case c26 => k_is)
    (case k26 => k_is)
    (case a27 => k_is)
    (case l27 => k_is)
    (case c27 => k_is)
    (case k27 => k_is)
    (case a28 => k_is)
    (case l28 => k_is)
    (case c28 => k_is)
    (case k28 => k_is)
    (case a29 => k_is)
    (case i29 => k_is)
    (case l29 => k_is)
    (case c29 => k_is)
    (case k29 => k_is)
    (case a30 => k_is)
    (case i30 => k_is)
    (case l30 => k_is)
    (case c30 => k_is)
    (case k30 => k_is)
    (case a31 => k_is)
    (case i31 => k_is)
    (case l31 => k_is)
    (case c31 => k_is)
    (case k31 => k_is)
    (case a32 => k_is)
    (case i32 => k_is)
    (case l32 => k_is)
    (case c32 => k_is)
    (case k32 => k_is)
    (case a33 => k_is)
    (case i33 => k_is)
    (case l33 => k_is)
    (case c33 => k_is)
    (case k33 => k_is)
    (case a34 => k_is)
    (case i34 => k_is)
    (case l34 => k_is)
    (case c34 => k_is)
    (case k34 => k_is)
    (case a35 => k_is)
    (case i35 => k_is)
    (case l35 => k_is)
    (case c35 => k_is)
    (case k35 => k_is)
    (case a36 => k_is)
    (case i36 => k_is)
    (case l36 => k_is)
    (case c36 => k_is)
    (case k36 => k_is)
    (case a37 => k_is)
    (case i37 => k_is)
    (case l37 => k_is)
    (case c37 => k_is)
    (case k37 => k_is)
    (case a38 => k_is)
    (case i38 => k_is)
    (case l38 => k_is)
    (case c38 => k_is)
    (case k38 => k_is)
