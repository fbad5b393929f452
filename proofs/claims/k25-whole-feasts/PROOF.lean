import PyProof.Rows.All
import Wide.All
import OpenK.AllK
import Wide.FinOn
import HandS.ForMost
import HandS.IsInst
import HandS.DictComp
import HandS.Strs
import HandS.SetFor
import KE.KDictKeyed
import PySem.Challenge.RW_truealmanac_k25_whole_feasts
/-! The calendars' mathematics: plain Lean. -/
set_option maxRecDepth 100000
namespace Al
def leap (j : Bool) (y : Int) : Bool := if j then decide (y % 4 = 0) else (decide (y % 4 = 0) && (!decide (y % 100 = 0) || decide (y % 400 = 0)))
def feb (j : Bool) (y : Int) : Int := if leap j y then 29 else 28
def mons (j : Bool) (y : Int) : List Int := [31, feb j y, 31, 30, 31, 30, 31, 31, 30, 31, 30, 31]
def fst (j : Bool) (y : Int) : Int := if j then -1 + 365 * (y - 1) + (y - 1) / 4 else 1 + 365 * (y - 1) + (y - 1) / 4 - (y - 1) / 100 + (y - 1) / 400
/-- the days of a year ahead of its month number m + 1 -/
def acc (j : Bool) (y : Int) (m : Nat) : Int := ((mons j y).take m).sum
theorem feb_two (j : Bool) (y : Int) : feb j y = 28 ∨ feb j y = 29 := by
  unfold feb; split <;> omega
theorem fst_next (j : Bool) (y : Int) : fst j (y + 1) = fst j y + (337 + feb j y) := by
  unfold fst feb leap
  cases j with
  | true =>
    by_cases h : y % 4 = 0
    · simp [h]; omega
    · simp [h]; omega
  | false =>
    by_cases h : y % 4 = 0
    · by_cases h1 : y % 100 = 0
      · by_cases h2 : y % 400 = 0
        · simp [h, h1, h2]; omega
        · simp [h, h1, h2]; omega
      · simp [h, h1]; omega
    · simp [h]; omega
theorem acc_zero (j : Bool) (y : Int) : acc j y 0 = 0 := rfl
theorem acc_all (j : Bool) (y : Int) : acc j y 12 = 337 + feb j y := by
  simp [acc, mons]; omega
theorem mons_len (j : Bool) (y : Int) : (mons j y).length = 12 := rfl
theorem acc_succ (j : Bool) (y : Int) (m : Nat) (l : Int) (h : (mons j y)[m]? = some l) : acc j y (m + 1) = acc j y m + l := by
  unfold acc
  rw [List.take_add_one, h]
  simp
theorem mon_pos (j : Bool) (y : Int) {m : Nat} {l : Int} (h : (mons j y)[m]? = some l) : 28 ≤ l := by
  have hm := List.mem_of_getElem? h
  have hf := feb_two j y
  simp [mons] at hm
  omega
theorem mon_at (j : Bool) (y : Int) {m : Nat} (h : m < 12) : ∃ l, (mons j y)[m]? = some l := ⟨(mons j y)[m]'(by rw [mons_len]; exact h), List.getElem?_eq_getElem _⟩
theorem acc_le (j : Bool) (y : Int) : ∀ {m k : Nat}, m ≤ k → k ≤ 12 → acc j y m ≤ acc j y k
  | m, 0, h, _ => by
    have e : m = 0 := by omega
    rw [e]; exact Int.le_refl _
  | m, k + 1, h, hk => by
    by_cases e : m = k + 1
    · rw [e]; exact Int.le_refl _
    · obtain ⟨l, hl⟩ := mon_at j y (m := k) (by omega)
      have h1 := acc_le j y (m := m) (k := k) (by omega) (by omega)
      have h2 := acc_succ j y k l hl
      have h3 := mon_pos j y hl
      omega
/-- the year of a day -/
def IsYear (j : Bool) (d y : Int) : Prop := fst j y ≤ d ∧ d < fst j (y + 1)
theorem fst_lt (j : Bool) {a b : Int} (h : a < b) : fst j a < fst j b := by
  unfold fst
  cases j with
  | true => simp; omega
  | false => simp; omega
theorem fst_le (j : Bool) {a b : Int} (h : a ≤ b) : fst j a ≤ fst j b := by
  by_cases e : a = b
  · rw [e]; exact Int.le_refl _
  · exact Int.le_of_lt (fst_lt j (by omega))
theorem IsYear.uniq {j : Bool} {d y z : Int} (h : IsYear j d y) (k : IsYear j d z) : y = z := by
  obtain ⟨h1, h2⟩ := h
  obtain ⟨k1, k2⟩ := k
  by_cases a : y < z
  · have := fst_le j (a := y + 1) (b := z) (by omega)
    omega
  · by_cases b : z < y
    · have := fst_le j (a := z + 1) (b := y) (by omega)
      omega
    · omega
/-- the day d is the day number n of the month number m of some year -/
def IsDate (j : Bool) (m : Nat) (n d : Int) : Prop := ∃ y l, (mons j y)[m - 1]? = some l ∧ n ≤ l ∧ fst j y + acc j y (m - 1) + n - 1 = d
theorem date_year {j : Bool} {m : Nat} {n d y l : Int} (hn : 1 ≤ n) (h1 : (mons j y)[m - 1]? = some l) (h2 : n ≤ l) (h3 : fst j y + acc j y (m - 1) + n - 1 = d) : IsYear j d y ∧ acc j y (m - 1) ≤ d - fst j y ∧ d - fst j y < acc j y (m - 1 + 1) := by
  have hm : m - 1 < 12 := by
    have := (List.getElem?_eq_some_iff.mp h1).1
    rw [mons_len] at this; exact this
  have a0 := acc_le j y (m := 0) (k := m - 1) (by omega) (by omega)
  rw [acc_zero] at a0
  have a1 := acc_succ j y (m - 1) l h1
  have a2 := acc_le j y (m := m - 1 + 1) (k := 12) (by omega) (by omega)
  rw [acc_all] at a2
  have a3 := fst_next j y
  refine ⟨⟨by omega, by omega⟩, by omega, by omega⟩
/-- the program's date of a day -/
theorem prog_date {j : Bool} {m k : Nat} {n d y : Int} (hm : 1 ≤ m) (hm2 : m ≤ 12) (hn : 1 ≤ n) (hy : IsYear j d y) (hk : k < 12) (r1 : acc j y k ≤ d - fst j y) (r2 : d - fst j y < acc j y (k + 1)) :
    ((k : Int) + 1 = (m : Int) ∧ d - fst j y - acc j y k + 1 = n) ↔ IsDate j m n d := by
  constructor
  · rintro ⟨e1, e2⟩
    have e : k = m - 1 := by omega
    subst e
    obtain ⟨l, hl⟩ := mon_at j y hk
    have a1 := acc_succ j y (m - 1) l hl
    exact ⟨y, l, hl, by omega, by omega⟩
  · rintro ⟨z, l, h1, h2, h3⟩
    obtain ⟨hz, q1, q2⟩ := date_year hn h1 h2 h3
    obtain rfl := hy.uniq hz
    have e : k = m - 1 := by
      by_cases a : k < m - 1
      · have := acc_le j y (m := k + 1) (k := m - 1) (by omega) (by omega)
        omega
      · by_cases b : m - 1 < k
        · have := acc_le j y (m := m - 1 + 1) (k := k) (by omega) (by omega)
          omega
        · omega
    subst e
    exact ⟨by omega, by omega⟩
theorem year_range {j : Bool} {d y : Int} (h : IsYear j d y) (h1 : -20000 ≤ d) (h2 : d ≤ 2000000) : d / 366 - 1 ≤ y ∧ y < d / 365 + 3 := by
  obtain ⟨a, b⟩ := h
  unfold fst at a b
  cases j with
  | true => simp at a b; omega
  | false => simp at a b; omega
/-- the law's look over the years -/
theorem law_date {j : Bool} {m : Nat} {n d : Int} (hn : 1 ≤ n) (h1 : -20000 ≤ d) (h2 : d ≤ 2000000) :
    IsDate j m n d ↔ ∃ y l, d / 366 - 1 ≤ y ∧ y < d / 365 + 3 ∧ (mons j y)[m - 1]? = some l ∧ n ≤ l ∧ fst j y + acc j y (m - 1) + n - 1 = d := by
  constructor
  · rintro ⟨y, l, a, b, c⟩
    have hy := (date_year hn a b c).1
    obtain ⟨r1, r2⟩ := year_range hy h1 h2
    exact ⟨y, l, r1, r2, a, b, c⟩
  · rintro ⟨y, l, _, _, a, b, c⟩
    exact ⟨y, l, a, b, c⟩
/-- the search's ends -/
theorem search_ends (j : Bool) {d : Int} (h1 : -20000 ≤ d) (h2 : d ≤ 2000000) : fst j (-12000000) ≤ d ∧ d < fst j 12000000 := by
  unfold fst
  cases j with
  | true => simp; omega
  | false => simp; omega
end Al

/-! What a feast's set of days is, and that the three ways to look at «first» agree: plain Lean. -/
set_option maxRecDepth 100000
namespace Al
inductive TN | full | spring | non
  deriving DecidableEq
inductive Feast
  | wk (w : Int)
  | date (j : Bool) (m : Nat) (n : Int)
  | told (t : TN)
  | shift (a : Feast) (n : Int)
  | no (a : Feast)
  | both (a b : Feast)
  | either (a b : Feast)
  | first (a b : Feast)
namespace Feast
def deep : Feast → Nat
  | wk _ | date _ _ _ | told _ => 1
  | shift a _ | no a => a.deep + 1
  | both a b | either a b | first a b => max a.deep b.deep + 1
/-- the numbers in it are in their ranges -/
def ok : Feast → Prop
  | wk _ | told _ => True
  | date _ m n => 1 ≤ m ∧ m ≤ 12 ∧ 1 ≤ n
  | shift a n => a.ok ∧ -400 ≤ n ∧ n ≤ 400
  | no a => a.ok
  | both a b | either a b | first a b => a.ok ∧ b.ok
end Feast
def holds (F : TN → List Int) : Feast → Int → Prop
  | .wk w, d => (d - 1) % 7 = w
  | .date j m n, d => IsDate j m n d
  | .told t, d => d ∈ F t
  | .shift a n, d => holds F a (d - n)
  | .no a, d => ¬ holds F a d
  | .both a b, d => holds F a d ∧ holds F b d
  | .either a b, d => holds F a d ∨ holds F b d
  | .first a b, d => holds F a d ∧ ∃ k : Nat, k ≤ 400 ∧ holds F b (d - k) ∧ ∀ i : Nat, 1 ≤ i → i ≤ k → ¬ holds F a (d - i)
open Classical in
noncomputable def bh (F : TN → List Int) (f : Feast) (d : Int) : Bool := decide (holds F f d)
theorem bh_true {F : TN → List Int} {f : Feast} {d : Int} : bh F f d = true ↔ holds F f d := by
  classical
  unfold bh
  exact decide_eq_true_iff
theorem bh_false {F : TN → List Int} {f : Feast} {d : Int} : bh F f d = false ↔ ¬ holds F f d := by
  classical
  unfold bh
  exact decide_eq_false_iff_not
theorem bh_iff {F : TN → List Int} {f : Feast} {d : Int} {b : Bool} (h : b = true ↔ holds F f d) : bh F f d = b := by
  cases b with
  | true => exact bh_true.mpr (h.mp rfl)
  | false => exact bh_false.mpr fun z => by have := h.mpr z; cases this
/-! ### is_first -/
section
variable {F : TN → List Int} {a b : Feast} {d : Int}
/-- the program's loop has seen the days d, d - 1, .. (k of them) -/
def PFst (F : TN → List Int) (a b : Feast) (d : Int) (k : Nat) : Prop := ∀ i : Nat, i < k → (1 ≤ i → ¬ holds F a (d - i)) ∧ ¬ holds F b (d - i)
theorem pfst_zero : PFst F a b d 0 := fun i h => absurd h (Nat.not_lt_zero i)
theorem pfst_stop {k : Nat} (h : PFst F a b d k) (h1 : 1 ≤ k) (h2 : holds F a (d - k)) : ¬ holds F (.first a b) d := by
  rintro ⟨_, q, h3, h4, h5⟩
  by_cases e : q < k
  · exact (h q e).2 h4
  · exact h5 k h1 (by omega) h2
theorem pfst_here {k : Nat} (h : PFst F a b d k) (hk : k ≤ 400) (h0 : holds F a d) (h1 : 1 ≤ k → ¬ holds F a (d - k)) (h2 : holds F b (d - k)) : holds F (.first a b) d := by
  refine ⟨h0, k, hk, h2, fun i i1 i2 => ?_⟩
  by_cases e : i < k
  · exact (h i e).1 i1
  · have : i = k := by omega
    rw [this]; exact h1 (by omega)
theorem pfst_next {k : Nat} (h : PFst F a b d k) (h1 : 1 ≤ k → ¬ holds F a (d - k)) (h2 : ¬ holds F b (d - k)) : PFst F a b d (k + 1) := fun i hi => by
  by_cases e : i < k
  · exact h i e
  · have : i = k := by omega
    rw [this]; exact ⟨h1, h2⟩
theorem pfst_end (h : PFst F a b d 401) : ¬ holds F (.first a b) d := by
  rintro ⟨_, q, h3, h4, _⟩
  exact (h q (by omega)).2 h4
/-- the law's loop -/
def LFst (F : TN → List Int) (a b : Feast) (d : Int) (k : Nat) : Prop := ∀ i : Nat, i < k → ¬ holds F b (d - i) ∧ ¬ holds F a (d - i - 1)
theorem lfst_zero : LFst F a b d 0 := fun i h => absurd h (Nat.not_lt_zero i)
theorem lfst_here {k : Nat} (h : LFst F a b d k) (hk : k ≤ 400) (h0 : holds F a d) (h2 : holds F b (d - k)) : holds F (.first a b) d := by
  refine ⟨h0, k, hk, h2, fun i i1 i2 => ?_⟩
  have q := (h (i - 1) (by omega)).2
  have e : d - ((i - 1 : Nat) : Int) - 1 = d - (i : Int) := by omega
  rw [e] at q; exact q
theorem lfst_stop {k : Nat} (h : LFst F a b d k) (h1 : ¬ holds F b (d - k)) (h2 : holds F a (d - k - 1)) : ¬ holds F (.first a b) d := by
  rintro ⟨_, q, h3, h4, h5⟩
  by_cases e : q < k
  · exact (h q e).1 h4
  · by_cases e2 : q = k
    · rw [e2] at h4; exact h1 h4
    · have z := h5 (k + 1) (by omega) (by omega)
      have e3 : d - ((k + 1 : Nat) : Int) = d - (k : Int) - 1 := by omega
      rw [e3] at z; exact z h2
theorem lfst_next {k : Nat} (h : LFst F a b d k) (h1 : ¬ holds F b (d - k)) (h2 : ¬ holds F a (d - k - 1)) : LFst F a b d (k + 1) := fun i hi => by
  by_cases e : i < k
  · exact h i e
  · have : i = k := by omega
    rw [this]; exact ⟨h1, h2⟩
theorem lfst_end (h : LFst F a b d 401) : ¬ holds F (.first a b) d := by
  rintro ⟨_, q, h3, h4, _⟩
  exact (h q (by omega)).1 h4
end
/-! ### first_days: the latest start ahead of a day -/
section
variable {F : TN → List Int} {a b : Feast} {e t : Int}
/-- l: the latest day of b in e .. t - 1 behind which (to u - 1) no day of a is -/
def Lat (F : TN → List Int) (a b : Feast) (e t u : Int) : Option Int → Prop
  | none => ∀ y, e ≤ y → y < t → holds F b y → ∃ z, y ≤ z ∧ z < u ∧ holds F a z
  | some y => e ≤ y ∧ y < t ∧ holds F b y ∧ (∀ z, y ≤ z → z < u → ¬ holds F a z) ∧ ∀ z, y < z → z < t → ¬ holds F b z
theorem lat_zero : Lat F a b e e e none := fun y h1 h2 _ => absurd h1 (by omega)
theorem lat_start {l : Option Int} (he : e ≤ t) (_ : Lat F a b e t t l) (hb : holds F b t) : Lat F a b e (t + 1) t (some t) :=
  ⟨he, by omega, hb, fun z h1 h2 => absurd h1 (by omega), fun z h1 h2 => absurd h1 (by omega)⟩
theorem lat_nostart {l : Option Int} (h : Lat F a b e t t l) (hb : ¬ holds F b t) : Lat F a b e (t + 1) t l := by
  cases l with
  | none =>
    intro y h1 h2 h3
    by_cases q : y = t
    · rw [q] at h3; exact absurd h3 hb
    · exact h y h1 (by omega) h3
  | some y =>
    obtain ⟨h1, h2, h3, h4, h5⟩ := h
    refine ⟨h1, by omega, h3, h4, fun z z1 z2 => ?_⟩
    by_cases q : z = t
    · rw [q]; exact hb
    · exact h5 z z1 (by omega)
theorem lat_goal {l : Option Int} (_ : Lat F a b e (t + 1) t l) (ha : holds F a t) : Lat F a b e (t + 1) (t + 1) none := fun y _ h2 _ => ⟨t, by omega, by omega, ha⟩
theorem lat_nogoal {l : Option Int} (h : Lat F a b e (t + 1) t l) (ha : ¬ holds F a t) : Lat F a b e (t + 1) (t + 1) l := by
  cases l with
  | none =>
    intro y h1 h2 h3
    obtain ⟨z, z1, z2, z3⟩ := h y h1 h2 h3
    exact ⟨z, z1, by omega, z3⟩
  | some y =>
    obtain ⟨h1, h2, h3, h4, h5⟩ := h
    refine ⟨h1, h2, h3, fun z z1 z2 => ?_, h5⟩
    by_cases q : z = t
    · rw [q]; exact ha
    · exact h4 z z1 (by omega)
/-- a day of a is the first one exactly if the latest start is not too far -/
theorem lat_first {l : Option Int} (h : Lat F a b e (t + 1) t l) (ha : holds F a t) (hr : e + 400 ≤ t) : holds F (.first a b) t ↔ ∃ y, l = some y ∧ t - y ≤ 400 := by
  constructor
  · rintro ⟨_, k, k1, k2, k3⟩
    cases l with
    | none =>
      obtain ⟨z, z1, z2, z3⟩ := h (t - k) (by omega) (by omega) k2
      have q := k3 (t - z).toNat (by omega) (by omega)
      have e1 : t - (((t - z).toNat : Nat) : Int) = z := by omega
      rw [e1] at q
      exact absurd z3 q
    | some y =>
      obtain ⟨h1, h2, h3, h4, h5⟩ := h
      refine ⟨y, rfl, ?_⟩
      by_cases q : y < t - k
      · exact absurd k2 (h5 _ q (by omega))
      · omega
  · rintro ⟨y, rfl, hy⟩
    obtain ⟨h1, h2, h3, h4, h5⟩ := h
    refine ⟨ha, (t - y).toNat, by omega, ?_, fun i i1 i2 => h4 _ (by omega) (by omega)⟩
    have e1 : t - (((t - y).toNat : Nat) : Int) = y := by omega
    rw [e1]; exact h3
end
end Al

set_option Elab.async false
set_option linter.all false
set_option maxRecDepth 100000
/-! The text by places, the words that all parts share. -/
namespace Al
open PySem L2
def top (i : Nat) : Stmt := PySem.Challenge.pw_truealmanac_k25_whole_feasts.main.body.getD i (.Pass ⟨0, 0, 0, 0⟩)
/-- a calendar's name -/
def cal (j : Bool) : Str := if j then "julian" else "gregorian"
theorem gre_jul : decide (V.str "gregorian" = V.str "julian") = false := by decide +kernel
theorem jul_gre : decide (V.str "julian" = V.str "gregorian") = false := by decide +kernel
theorem cal_jul (j : Bool) : decide (V.str (cal j) = V.str "julian") = j := by
  cases j with
  | true => exact decide_eq_true rfl
  | false => exact gre_jul
theorem cal_gre (j : Bool) : decide (V.str (cal j) = V.str "gregorian") = !j := by
  cases j with
  | true => exact jul_gre
  | false => exact decide_eq_true rfl
theorem dec_vint (a b : Int) : decide (V.int a = V.int b) = decide (a = b) := by
  by_cases h : a = b
  · subst h; simp
  · rw [decide_eq_false h, decide_eq_false (fun z => h (V.int.inj z))]
/-! ### heaps -/
theorem same_new {H : Hp} {p : Addr} {o : HO} (h : H p = none) : Same H (upd H p o) := fun b x e => by
  rw [upd_ne (ne_of_none e h)]
  exact e
/-- all but what stands at d is as it was -/
def Kp (d : Addr) (H H' : Hp) : Prop := ∀ b o, b ≠ d → H b = some o → H' b = some o
theorem Kp.refl (d : Addr) (H : Hp) : Kp d H H := fun _ _ _ h => h
theorem Kp.trans {d : Addr} {H H1 H2 : Hp} (a : Kp d H H1) (b : Kp d H1 H2) : Kp d H H2 := fun c o n h => b c o n (a c o n h)
theorem Same.kp {d : Addr} {H H1 : Hp} (a : Same H H1) : Kp d H H1 := fun c o _ h => a c o h
theorem kp_upd {d : Addr} {H : Hp} {o : HO} : Kp d H (upd H d o) := fun c x n h => by rw [upd_ne n]; exact h
end Al

set_option Elab.async false
set_option linter.all false
set_option maxRecDepth 100000
set_option maxHeartbeats 4000000
/-! The calendars' defs. -/
namespace Al
open PySem PySem.Spec PyProof.Rows L2
abbrev sWeekday : Stmt := top 4
abbrev sIsLeap : Stmt := top 5
abbrev sMonthsOf : Stmt := top 6
abbrev sFirstDay : Stmt := top 7
abbrev sYearOf : Stmt := top 8
abbrev sDateOf : Stmt := top 9
theorem scWeekday : FnScope ["day"] ["day"] (defScope sWeekday) := ⟨rfl, rfl, rfl, by decide +kernel, rfl, by decide +kernel, by decide +kernel⟩
theorem scIsLeap : FnScope ["calendar", "year"] ["calendar", "year"] (defScope sIsLeap) := ⟨rfl, rfl, rfl, by decide +kernel, rfl, by decide +kernel, by decide +kernel⟩
theorem scMonthsOf : FnScope ["calendar", "year", "lengths"] ["calendar", "year"] (defScope sMonthsOf) := ⟨rfl, rfl, rfl, by decide +kernel, rfl, by decide +kernel, by decide +kernel⟩
theorem scFirstDay : FnScope ["calendar", "year", "before", "rounds", "rest", "lengths"] ["calendar", "year"] (defScope sFirstDay) := ⟨rfl, rfl, rfl, by decide +kernel, rfl, by decide +kernel, by decide +kernel⟩
theorem scYearOf : FnScope ["calendar", "day", "low", "high", "middle"] ["calendar", "day"] (defScope sYearOf) := ⟨rfl, rfl, rfl, by decide +kernel, rfl, by decide +kernel, by decide +kernel⟩
theorem scDateOf : FnScope ["calendar", "day", "year", "rest", "month", "length"] ["calendar", "day"] (defScope sDateOf) := ⟨rfl, rfl, rfl, by decide +kernel, rfl, by decide +kernel, by decide +kernel⟩
/-! ### promises -/
def spWeekday : Sp := fun vs H Q _ => ∃ d : Int, vs = [.int d] ∧ Q (.int ((d - 1) % 7)) H
def spLeap : Sp := fun vs H Q _ => ∃ (j : Bool) (y : Int), vs = [.str (cal j), .int y] ∧ Q (.bl (leap j y)) H
def spMonths : Sp := fun vs H Q _ => ∃ (j : Bool) (y : Int), vs = [.str (cal j), .int y] ∧ ∀ p, H p = none → Q (.ref p) (upd H p (.lst ((mons j y).map V.int)))
def spFirst : Sp := fun vs H Q _ => ∃ (j : Bool) (y : Int), vs = [.str (cal j), .int y] ∧ Q (.int (fst j y)) H
def spYear : Sp := fun vs H Q _ => ∃ (j : Bool) (d : Int), vs = [.str (cal j), .int d] ∧ -20000 ≤ d ∧ d ≤ 2000000 ∧ ∀ y, IsYear j d y → Q (.int y) H
def spDate : Sp := fun vs H Q _ => ∃ (j : Bool) (d : Int), vs = [.str (cal j), .int d] ∧ -20000 ≤ d ∧ d ≤ 2000000 ∧
  ∀ (y : Int) (k : Nat) (H' : Hp) (p : Addr), IsYear j d y → k < 12 → acc j y k ≤ d - fst j y → d - fst j y < acc j y (k + 1) → Same H H' → H' p = some (.tup [.int y, .int ((k : Int) + 1), .int (d - fst j y - acc j y k + 1)]) → Q (.ref p) H'
/-- xs[k] of a list, the place not below 0, by values -/
def rGetL (K : PySem.W.Frag) : V → V → Hp → VK → Prop := fun x y H Q => ∃ (p : Addr) (xs : List V) (k : Nat) (v : V), x = .ref p ∧ y = .int k ∧ SqL K H p xs ∧ xs[k]? = some v ∧ Q v H
theorem get_list {X : Cx} : PGet X (rGetL X.K) := by
  intro pins s σ H o i ov iv Q I ro ri h
  obtain ⟨p, xs, k, v, rfl, rfl, hq, he, q⟩ := h
  cases ro
  obtain ⟨t, rfl⟩ := ri
  obtain ⟨its, r, pl, hz⟩ := I.list hq
  obtain ⟨u, eu, ru⟩ := r.get he
  have hl := r.length
  have hk := (List.getElem?_eq_some_iff.mp he).1
  have hn := line63
  exact wpAny_getItem_list pl.isList (by omega) (by omega) (by simpa using eu) ⟨v, H, I, ru, q⟩
section
variable {P : Program} {w : World} {K : PySem.W.Frag} {mg : Str → Option Value} {base : Heap}
theorem ok_weekday {f : Addr} {fd : FuncData} (F : Fun K "weekday" "weekday" sWeekday f fd) : FnOk P w K mg base CX0 1 f fd ["day"] spWeekday := by
  refine F.ok scWeekday (fun vs H Q E h => ?_) (fun cdv A outer s H vs Q E hr h => ?_)
  · obtain ⟨d, rfl, _⟩ := h
    rfl
  · obtain ⟨d, rfl, q⟩ := h
    refine ⟨_, pss_one (ps_ret (pe_op op_mod (pe_op op_sub (pv 0) pe_int) pe_int)), ?_⟩
    exact ⟨_, rfl, _, _, rfl, rfl, _, _, rfl, rfl, (by show (0 : Int) < 7; decide), q⟩
theorem ok_isLeap {f : Addr} {fd : FuncData} (F : Fun K "is_leap" "is_leap" sIsLeap f fd) : FnOk P w K mg base CX0 1 f fd ["calendar", "year"] spLeap := by
  refine F.ok scIsLeap (fun vs H Q E h => ?_) (fun cdv A outer s H vs Q E hr h => ?_)
  · obtain ⟨j, y, rfl, _⟩ := h
    rfl
  · obtain ⟨j, y, rfl, q⟩ := h
    refine ⟨_, pss_cons (ps_if (pt_cmpR op_eq (pv 0) pe_str (nomark _)) (pss_one (ps_ret (pe_cmpR op_eq (pe_op op_mod (pv 1) pe_int) pe_int (nomark _)))) pss_nil)
      (pss_one (ps_ret (pe_and (pe_cmpR op_eq (pe_op op_mod (pv 1) pe_int) pe_int (nomark _))
        (pe_one (pe_or (pe_cmpR op_ne (pe_op op_mod (pv 1) pe_int) pe_int (nomark _)) (pe_one (pe_cmpR op_eq (pe_op op_mod (pv 1) pe_int) pe_int (nomark _)))))))), ?_⟩
    refine ⟨_, rfl, rfl, _, rfl, ?_⟩
    rw [cal_jul]
    cases j with
    | true =>
      refine iteT ⟨_, rfl, _, _, rfl, rfl, (by show (0 : Int) < 4; decide), rfl, ?_⟩
      rw [dec_vint]
      exact q
    | false =>
      refine iteF ⟨_, rfl, _, _, rfl, rfl, (by show (0 : Int) < 4; decide), rfl, _, rfl, ?_⟩
      rw [dec_vint]
      have q : Q (.bl (decide (y % 4 = 0) && (!decide (y % 100 = 0) || decide (y % 400 = 0)))) H := q
      by_cases h4 : y % 4 = 0
      · rw [decide_eq_true h4] at q ⊢
        refine iteT ⟨_, rfl, _, _, rfl, rfl, (by show (0 : Int) < 100; decide), rfl, _, rfl, ?_⟩
        rw [dec_vint]
        by_cases h1 : y % 100 = 0
        · rw [decide_eq_true h1] at q ⊢
          refine iteF ⟨_, rfl, _, _, rfl, rfl, (by show (0 : Int) < 400; decide), rfl, ?_⟩
          rw [dec_vint]
          exact q
        · rw [decide_eq_false h1] at q ⊢
          exact iteT q
      · rw [decide_eq_false h4] at q ⊢
        exact iteF q
theorem ok_firstDay {f : Addr} {fd : FuncData} (F : Fun K "first_day" "first_day" sFirstDay f fd) {tk : Tok} (mF : mg "FIRST_JULIAN" = some (.int (-1) tk)) : FnOk P w K mg base CX0 1 f fd ["calendar", "year"] spFirst := by
  refine F.ok scFirstDay (fun vs H Q E h => ?_) (fun cdv A outer s H vs Q E hr h => ?_)
  · obtain ⟨j, y, rfl, _⟩ := h
    rfl
  · obtain ⟨j, y, rfl, q⟩ := h
    refine ⟨_, pss_cons (ps_set (i := 2) scFirstDay.nd rfl (.inl rfl) (pe_op op_sub (pv 1) pe_int))
      (pss_cons (ps_if (pt_cmpR op_eq (pv 0) pe_str (nomark _))
        (pss_one (ps_ret (pe_op op_add (pe_op op_sub (pe_op op_add (pe_op op_add pe_int (pe_op op_mul pe_int (pv 2))) (pe_op op_fdiv (pv 2) pe_int)) (pe_op op_fdiv (pv 2) pe_int)) (pe_op op_fdiv (pv 2) pe_int)))) pss_nil)
      (pss_cons (ps_if (pt_cmpR op_eq (pv 0) pe_str (nomark _))
        (pss_one (ps_ret (pe_op op_add (pe_op op_add (pe_glob (v := .int (-1)) rfl mF ⟨_, rfl⟩) (pe_op op_mul pe_int (pv 2))) (pe_op op_fdiv (pv 2) pe_int)))) pss_nil) pss_never)), ?_⟩
    refine ⟨_, rfl, _, _, rfl, rfl, ?_⟩
    refine ⟨_, rfl, rfl, _, rfl, ?_⟩
    rw [cal_gre]
    cases j with
    | false =>
      refine iteT ?_
      exact ⟨_, rfl, _, _, rfl, rfl, .inl ⟨by decide, by decide⟩, _, _, rfl, rfl, _, rfl, _, _, rfl, rfl, ⟨by decide, by decide⟩, _, _, rfl, rfl, _, rfl, _, _, rfl, rfl, ⟨by decide, by decide⟩, _, _, rfl, rfl, _, rfl, _, _, rfl, rfl, ⟨by decide, by decide⟩, _, _, rfl, rfl, q⟩
    | true =>
      refine iteF ⟨_, rfl, rfl, _, rfl, ?_⟩
      rw [cal_jul]
      refine iteT ?_
      exact ⟨_, rfl, _, _, rfl, rfl, .inl ⟨by decide, by decide⟩, _, _, rfl, rfl, _, rfl, _, _, rfl, rfl, ⟨by decide, by decide⟩, _, _, rfl, rfl, q⟩
def lens : List Int := [31, 28, 31, 30, 31, 30, 31, 31, 30, 31, 30, 31]
theorem ok_monthsOf {f g aL : Addr} {fd gd : FuncData} {tk : Tok} (F : Fun K "months_of" "months_of" sMonthsOf f fd) (G : FnOk P w K mg base CX0 1 g gd ["calendar", "year"] spLeap) (bG : Binds K gd ["calendar", "year"] []) (kG : PySem.W.keepIn K (.ref g) = true) (mG : mg "is_leap" = some (.ref g))
    (mL : mg "LENGTHS" = some (.ref aL)) (hL : ∀ H, SqT K H aL (lens.map V.int)) (mB : mg "FEBRUARY" = some (.int 1 tk)) (mi : mg "isinstance" = none) (ms : mg "str" = none) (ml : mg "list" = none) : FnOk P w K mg base CX0 2 f fd ["calendar", "year"] spMonths := by
  refine F.ok scMonthsOf (fun vs H Q E h => ?_) (fun cdv A outer s H vs Q E hr h => ?_)
  · obtain ⟨j, y, rfl, _⟩ := h
    rfl
  · obtain ⟨j, y, rfl, q⟩ := h
    refine ⟨_, pss_cons (ps_if (pt_not (pt_val (pe_callB call_isi (by rfl) mi (by decide +kernel) (pa_cons (pv 0) (pa_cons (pe_bltn (v := .ty "str") (u := .type "str") (by rfl) ms (by decide +kernel) rfl) pa_nil))))) pss_never pss_nil)
      (pss_cons (ps_set (i := 2) scMonthsOf.nd rfl (.inl rfl) (pe_callTy call_list_of (by rfl) ml (by decide +kernel) (pa_cons (pe_glob (v := .ref aL) rfl mL rfl) pa_nil)))
      (pss_cons (ps_if (pt_val (pe_call G hr rfl mG kG bG .nil pass0 (pa_cons (pv 0) (pa_cons (pv 1) pa_nil))))
        (pss_one (ps_augS (pv 2) (pe_glob (v := .int 1) rfl mB ⟨_, rfl⟩) get_list pe_int ip_add set_list)) pss_nil)
      (pss_one (ps_ret (pv 2))))), ?_⟩
    refine ⟨_, rfl, _, _, _, _, true, rfl, .ty "str", .base (.str _), rfl, _, rfl, ?_⟩
    refine iteF ?_
    refine ⟨aL, _, rfl, .inr (hL _), fun p hp => ?_⟩
    refine ⟨_, rfl, _, rfl, j, y, rfl, _, rfl, ?_⟩
    have q := q p hp
    cases hl : leap j y with
    | false =>
      refine iteF ⟨_, rfl, ?_⟩
      have e : mons j y = lens := by
        unfold mons feb
        rw [hl]
        rfl
      rw [e] at q
      exact q
    | true =>
      refine iteT ⟨_, rfl, p, lens.map V.int, 1, .int 28, rfl, rfl, SqL.of upd_same, rfl, 28, 1, rfl, rfl, p, lens.map V.int, 1, 1, rfl, rfl, upd_same, rfl, _, rfl, ?_⟩
      rw [upd_upd]
      have e : (mons j y).map V.int = (lens.map V.int).set 1 (V.int (28 + 1)) := by
        unfold mons feb
        rw [hl]
        rfl
      rw [e] at q
      exact q
theorem ok_yearOf {f g : Addr} {fd gd : FuncData} (F : Fun K "year_of" "year_of" sYearOf f fd) (G : FnOk P w K mg base CX0 1 g gd ["calendar", "year"] spFirst) (bG : Binds K gd ["calendar", "year"] []) (kG : PySem.W.keepIn K (.ref g) = true) (mG : mg "first_day" = some (.ref g)) : FnOk P w K mg base CX0 2 f fd ["calendar", "day"] spYear := by
  refine F.ok scYearOf (fun vs H Q E h => ?_) (fun cdv A outer s H vs Q E hr h => ?_)
  · obtain ⟨j, d, rfl, _⟩ := h
    rfl
  · obtain ⟨j, d, rfl, h1, h2, q⟩ := h
    refine ⟨_, pss_cons (ps_set (i := 2) scYearOf.nd rfl (.inl rfl) (pe_un un_neg pe_int))
      (pss_cons (ps_set (i := 3) scYearOf.nd rfl (.inl rfl) pe_int)
      (pss_cons (ps_while PassesOwn.never (pt_cmpR op_gt (pe_op op_sub (pv 3) (pv 2)) pe_int (nomark _))
        (pss_cons (ps_set (i := 4) scYearOf.nd rfl (.inl rfl) (pe_op op_fdiv (pe_op op_add (pv 2) (pv 3)) pe_int))
        (pss_one (ps_if (pt_cmpR op_le (pe_call G hr rfl mG kG bG .nil pass0 (pa_cons (pv 0) (pa_cons (pv 4) pa_nil))) (pv 1) (nomark _))
          (pss_one (ps_set (i := 2) scYearOf.nd rfl (.inl rfl) (pv 4)))
          (pss_one (ps_set (i := 3) scYearOf.nd rfl (.inl rfl) (pv 4)))))))
      (pss_one (ps_ret (pv 2))))), ?_⟩
    obtain ⟨e1, e2⟩ := search_ends j h1 h2
    refine ⟨_, rfl, ?_⟩
    refine ⟨fun m σ H' => ∃ (lo hi : Int) (o : Option V), σ = [some (.str (cal j)), some (.int d), some (.int lo), some (.int hi), o] ∧ H' = H ∧ fst j lo ≤ d ∧ d < fst j hi ∧ lo < hi ∧ m = (hi - lo).toNat,
      ⟨_, -12000000, 12000000, none, rfl, rfl, e1, e2, by omega, rfl⟩, ?_⟩
    rintro m σ H' ⟨lo, hi, o, rfl, rfl, g1, g2, g3, rfl⟩
    refine ⟨_, rfl, _, rfl, _, _, rfl, rfl, _, _, rfl, rfl, _, rfl, ite2 (fun c => ?_) (fun c => ?_)⟩
    · have c : 1 < hi - lo := of_decide_eq_true c
      refine ⟨fun σ' H2 => ∃ (lo' hi' : Int) (o : Option V), σ' = [some (.str (cal j)), some (.int d), some (.int lo'), some (.int hi'), o] ∧ H2 = H' ∧ fst j lo' ≤ d ∧ d < fst j hi' ∧ lo' < hi' ∧ hi' - lo' < hi - lo,
        fun σ' H2 hN => ?_, ?_⟩
      · obtain ⟨lo', hi', o', e, e', k1, k2, k3, k4⟩ := hN
        exact ⟨(hi' - lo').toNat, by omega, lo', hi', o', e, e', k1, k2, k3, rfl⟩
      · refine ⟨_, rfl, _, rfl, _, _, rfl, rfl, _, _, rfl, rfl, ⟨by decide, by decide⟩, ?_⟩
        refine ⟨_, rfl, _, rfl, j, _, rfl, _, rfl, _, _, rfl, rfl, _, rfl, ite2 (fun c2 => ?_) (fun c2 => ?_)⟩
        · have c2 : fst j ((lo + hi) / 2) ≤ d := of_decide_eq_true c2
          exact ⟨_, rfl, _, hi, _, rfl, rfl, c2, g2, by omega, by omega⟩
        · have c2 : ¬ fst j ((lo + hi) / 2) ≤ d := of_decide_eq_false (Bool.eq_false_iff.mpr c2)
          exact ⟨_, rfl, lo, _, _, rfl, rfl, g1, by omega, by omega, by omega⟩
    · have c : ¬ 1 < hi - lo := of_decide_eq_false (Bool.eq_false_iff.mpr c)
      have e : hi = lo + 1 := by omega
      subst e
      exact ⟨_, rfl, q lo ⟨g1, g2⟩⟩
theorem ok_dateOf {f g g2 g3 : Addr} {fd gd gd2 gd3 : FuncData} (F : Fun K "date_of" "date_of" sDateOf f fd)
    (G : FnOk P w K mg base CX0 2 g gd ["calendar", "day"] spYear) (bG : Binds K gd ["calendar", "day"] []) (kG : PySem.W.keepIn K (.ref g) = true) (mG : mg "year_of" = some (.ref g))
    (G2 : FnOk P w K mg base CX0 1 g2 gd2 ["calendar", "year"] spFirst) (bG2 : Binds K gd2 ["calendar", "year"] []) (kG2 : PySem.W.keepIn K (.ref g2) = true) (mG2 : mg "first_day" = some (.ref g2))
    (G3 : FnOk P w K mg base CX0 2 g3 gd3 ["calendar", "year"] spMonths) (bG3 : Binds K gd3 ["calendar", "year"] []) (kG3 : PySem.W.keepIn K (.ref g3) = true) (mG3 : mg "months_of" = some (.ref g3)) : FnOk P w K mg base CX0 3 f fd ["calendar", "day"] spDate := by
  refine F.ok scDateOf (fun vs H Q E h => ?_) (fun cdv A outer s H vs Q E hr h => ?_)
  · obtain ⟨j, d, rfl, _⟩ := h
    rfl
  · obtain ⟨j, d, rfl, h1, h2, q⟩ := h
    refine ⟨_, pss_cons (ps_set (i := 2) scDateOf.nd rfl (.inl rfl) (pe_call G hr rfl mG kG bG .nil pass0 (pa_cons (pv 0) (pa_cons (pv 1) pa_nil))))
      (pss_cons (ps_set (i := 3) scDateOf.nd rfl (.inl rfl) (pe_op op_sub (pv 1) (pe_call G2 (hr.mono (by decide)) rfl mG2 kG2 bG2 .nil pass0 (pa_cons (pv 0) (pa_cons (pv 2) pa_nil)))))
      (pss_cons (ps_set (i := 4) scDateOf.nd rfl (.inl rfl) pe_int)
      (pss_cons (ps_for PassesOwn.never rfl (pi_list (pe_call G3 hr rfl mG3 kG3 bG3 .nil pass0 (pa_cons (pv 0) (pa_cons (pv 2) pa_nil)))) (pg_name (i := 5) scDateOf.nd rfl (.inl rfl))
        (pss_cons (ps_if (pt_cmpR op_lt (pv 3) (pv 5) (nomark _)) (pss_one ps_break) pss_nil)
        (pss_cons (ps_aug (i := 3) scDateOf.nd rfl (.inl rfl) (pv 5) ip_sub)
        (pss_one (ps_aug (i := 4) scDateOf.nd rfl (.inl rfl) pe_int ip_add)))))
      (pss_one (ps_ret (pe_tup (pa_cons (pv 2) (pa_cons (pv 4) (pa_cons (pe_op op_add (pv 3) pe_int) pa_nil))))))))), ?_⟩
    refine ⟨_, rfl, _, rfl, j, d, rfl, h1, h2, fun y hy => ?_⟩
    refine ⟨_, rfl, _, rfl, _, rfl, j, y, rfl, _, _, rfl, rfl, ?_⟩
    refine ⟨_, rfl, _, rfl, j, y, rfl, fun p hp => ?_⟩
    have hlen : ((mons j y).map V.int).length = 12 := rfl
    refine ⟨p, rfl, ⟨_, SqL.of upd_same⟩, for_list (K := K) (a := p) (xs := (mons j y).map V.int) (fun i σ H2 => ∃ o : Option V, σ = [some (.str (cal j)), some (.int d), some (.int y), some (.int (d - fst j y - acc j y i)), some (.int ((i : Int) + 1)), o] ∧ H2 = upd H p (.lst ((mons j y).map V.int)) ∧ acc j y i ≤ d - fst j y) ⟨none, ?_, rfl, ?_⟩ ?_ ?_ ?_⟩
    · rw [acc_zero, Int.sub_zero]
      rfl
    · rw [acc_zero]
      have := hy.1
      omega
    · rintro i σ H2 _ ⟨o, _, rfl, _⟩
      exact SqL.of upd_same
    · rintro i x σ H2 hx ⟨o, rfl, rfl, hacc⟩
      rw [List.getElem?_map] at hx
      obtain ⟨l, hl, rfl⟩ := Option.map_eq_some_iff.mp hx
      have hi : i < 12 := by
        have := (List.getElem?_eq_some_iff.mp hl).1
        rw [mons_len] at this
        exact this
      have hs := acc_succ j y i l hl
      refine ⟨_, rfl, _, rfl, _, _, rfl, rfl, _, rfl, ite2 (fun c => ?_) (fun c => ?_)⟩
      · have c : d - fst j y - acc j y i < l := of_decide_eq_true c
        refine ⟨_, rfl, _, rfl, _, rfl, _, _, rfl, rfl, (by show 3 ≤ sizeLine; decide), fun t ht => ?_⟩
        exact q y i _ t hy hi hacc (by omega) ((same_new hp).trans (same_new ht)) upd_same
      · have c : ¬ d - fst j y - acc j y i < l := of_decide_eq_false (Bool.eq_false_iff.mpr c)
        refine ⟨_, rfl, _, rfl, _, _, rfl, rfl, _, rfl, _, _, rfl, rfl, some (.int l), ?_, rfl, by omega⟩
        rw [hs]
        show [some (V.str (cal j)), some (.int d), some (.int y), some (.int (d - fst j y - acc j y i - l)), some (.int ((i : Int) + 1 + 1)), some (.int l)] = _
        rw [show d - fst j y - acc j y i - l = d - fst j y - (acc j y i + l) by omega]
        rfl
    · rintro σ H2 ⟨o, _, _, hacc⟩
      exfalso
      have e : acc j y 12 = 337 + feb j y := acc_all j y
      rw [hlen] at hacc
      have h3 := fst_next j y
      have h4 := hy.2
      omega
end
end Al

set_option Elab.async false
set_option linter.all false
set_option maxRecDepth 100000
set_option maxHeartbeats 4000000
/-! The law's own calendar defs. -/
namespace Al
open PySem PySem.Spec PyProof.Rows L2
abbrev sLLeap : Stmt := top 23
abbrev sLMonths : Stmt := top 24
abbrev sLFirst : Stmt := top 28
abbrev sLIsDate : Stmt := top 29
theorem scLLeap : FnScope ["_law_calendar_here", "_law_year"] ["_law_calendar_here", "_law_year"] (defScope sLLeap) := ⟨rfl, rfl, rfl, by decide +kernel, rfl, by decide +kernel, by decide +kernel⟩
theorem scLMonths : FnScope ["_law_calendar_here", "_law_year"] ["_law_calendar_here", "_law_year"] (defScope sLMonths) := ⟨rfl, rfl, rfl, by decide +kernel, rfl, by decide +kernel, by decide +kernel⟩
theorem scLFirst : FnScope ["_law_calendar_here", "_law_year", "_law_before"] ["_law_calendar_here", "_law_year"] (defScope sLFirst) := ⟨rfl, rfl, rfl, by decide +kernel, rfl, by decide +kernel, by decide +kernel⟩
theorem scLIsDate : FnScope ["_law_calendar_here", "_law_month", "_law_number", "_law_day", "_law_year", "_law_months_here"] ["_law_calendar_here", "_law_month", "_law_number", "_law_day"] (defScope sLIsDate) := ⟨rfl, rfl, rfl, by decide +kernel, rfl, by decide +kernel, by decide +kernel⟩
def spIsDate : Sp := fun vs H Q _ => ∃ (j : Bool) (m : Nat) (n d : Int), vs = [.str (cal j), .int m, .int n, .int d] ∧ 1 ≤ m ∧ m ≤ 12 ∧ 1 ≤ n ∧ -20000 ≤ d ∧ d ≤ 2000000 ∧
  ∀ (b : Bool) (H' : Hp), (b = true ↔ IsDate j m n d) → Same H H' → Q (.bl b) H'
theorem cut_take (xs : List V) (k : Nat) (h : k ≤ xs.length) : cutV xs none (some (k : Int)) = xs.take k := by
  unfold cutV
  rw [HT.sIx_nat, HT.sIx_none, show min k xs.length = k by omega]
  simp
section
variable {P : Program} {w : World} {K : PySem.W.Frag} {mg : Str → Option Value} {base : Heap}
theorem ok_lLeap {f : Addr} {fd : FuncData} (F : Fun K "_law_leap" "_law_leap" sLLeap f fd) (mi : mg "int" = none) : FnOk P w K mg base CX0 1 f fd ["_law_calendar_here", "_law_year"] spLeap := by
  refine F.ok scLLeap (fun vs H Q E h => ?_) (fun cdv A outer s H vs Q E hr h => ?_)
  · obtain ⟨j, y, rfl, _⟩ := h
    rfl
  · obtain ⟨j, y, rfl, q⟩ := h
    refine ⟨_, pss_cons (ps_if (pt_cmpR op_eq (pv 0) pe_str (nomark _)) (pss_one (ps_ret (pe_cmpR op_eq (pe_op op_mod (pe_callTy call_int1 (by rfl) mi (by decide +kernel) (pa_cons (pv 1) pa_nil)) pe_int) pe_int (nomark _)))) pss_nil)
      (pss_one (ps_ret (pe_and (pe_cmpR op_eq (pe_op op_mod (pe_callTy call_int1 (by rfl) mi (by decide +kernel) (pa_cons (pv 1) pa_nil)) pe_int) pe_int (nomark _))
        (pe_one (pe_or (pe_cmpR op_ne (pe_op op_mod (pe_callTy call_int1 (by rfl) mi (by decide +kernel) (pa_cons (pv 1) pa_nil)) pe_int) pe_int (nomark _)) (pe_one (pe_cmpR op_eq (pe_op op_mod (pe_callTy call_int1 (by rfl) mi (by decide +kernel) (pa_cons (pv 1) pa_nil)) pe_int) pe_int (nomark _)))))))), ?_⟩
    refine ⟨_, rfl, rfl, _, rfl, ?_⟩
    rw [cal_jul]
    cases j with
    | true =>
      refine iteT ⟨_, rfl, .inl ⟨_, rfl, _, _, rfl, rfl, (by show (0 : Int) < 4; decide), rfl, ?_⟩⟩
      rw [dec_vint]
      exact q
    | false =>
      refine iteF ⟨_, rfl, .inl ⟨_, rfl, _, _, rfl, rfl, (by show (0 : Int) < 4; decide), rfl, _, rfl, ?_⟩⟩
      rw [dec_vint]
      have q : Q (.bl (decide (y % 4 = 0) && (!decide (y % 100 = 0) || decide (y % 400 = 0)))) H := q
      by_cases h4 : y % 4 = 0
      · rw [decide_eq_true h4] at q ⊢
        refine iteT ⟨_, rfl, .inl ⟨_, rfl, _, _, rfl, rfl, (by show (0 : Int) < 100; decide), rfl, _, rfl, ?_⟩⟩
        rw [dec_vint]
        by_cases h1 : y % 100 = 0
        · rw [decide_eq_true h1] at q ⊢
          refine iteF ⟨_, rfl, .inl ⟨_, rfl, _, _, rfl, rfl, (by show (0 : Int) < 400; decide), rfl, ?_⟩⟩
          rw [dec_vint]
          exact q
        · rw [decide_eq_false h1] at q ⊢
          exact iteT q
      · rw [decide_eq_false h4] at q ⊢
        exact iteF q
theorem ok_lFirst {f : Addr} {fd : FuncData} (F : Fun K "_law_first" "_law_first" sLFirst f fd) : FnOk P w K mg base CX0 1 f fd ["_law_calendar_here", "_law_year"] spFirst := by
  refine F.ok scLFirst (fun vs H Q E h => ?_) (fun cdv A outer s H vs Q E hr h => ?_)
  · obtain ⟨j, y, rfl, _⟩ := h
    rfl
  · obtain ⟨j, y, rfl, q⟩ := h
    refine ⟨_, pss_cons (ps_set (i := 2) scLFirst.nd rfl (.inl rfl) (pe_op op_sub (pv 1) pe_int))
      (pss_cons (ps_if (pt_cmpR op_eq (pv 0) pe_str (nomark _))
        (pss_one (ps_ret (pe_op op_add (pe_op op_add (pe_un un_neg pe_int) (pe_op op_mul pe_int (pv 2))) (pe_op op_fdiv (pv 2) pe_int)))) pss_nil)
      (pss_one (ps_ret (pe_op op_add (pe_op op_sub (pe_op op_add (pe_op op_add pe_int (pe_op op_mul pe_int (pv 2))) (pe_op op_fdiv (pv 2) pe_int)) (pe_op op_fdiv (pv 2) pe_int)) (pe_op op_fdiv (pv 2) pe_int))))), ?_⟩
    refine ⟨_, rfl, _, _, rfl, rfl, ?_⟩
    refine ⟨_, rfl, rfl, _, rfl, ?_⟩
    rw [cal_jul]
    cases j with
    | false =>
      refine iteF ?_
      exact ⟨_, rfl, _, _, rfl, rfl, .inl ⟨by decide, by decide⟩, _, _, rfl, rfl, _, rfl, _, _, rfl, rfl, ⟨by decide, by decide⟩, _, _, rfl, rfl, _, rfl, _, _, rfl, rfl, ⟨by decide, by decide⟩, _, _, rfl, rfl, _, rfl, _, _, rfl, rfl, ⟨by decide, by decide⟩, _, _, rfl, rfl, q⟩
    | true =>
      refine iteT ?_
      exact ⟨_, rfl, _, rfl, _, _, rfl, rfl, .inl ⟨by decide, by decide⟩, _, _, rfl, rfl, _, rfl, _, _, rfl, rfl, ⟨by decide, by decide⟩, _, _, rfl, rfl, q⟩
theorem ok_lMonths {f g : Addr} {fd gd : FuncData} (F : Fun K "_law_months" "_law_months" sLMonths f fd) (G : FnOk P w K mg base CX0 1 g gd ["_law_calendar_here", "_law_year"] spLeap) (bG : Binds K gd ["_law_calendar_here", "_law_year"] []) (kG : PySem.W.keepIn K (.ref g) = true) (mG : mg "_law_leap" = some (.ref g))
    (mi : mg "isinstance" = none) (ms : mg "str" = none) : FnOk P w K mg base CX0 2 f fd ["_law_calendar_here", "_law_year"] spMonths := by
  refine F.ok scLMonths (fun vs H Q E h => ?_) (fun cdv A outer s H vs Q E hr h => ?_)
  · obtain ⟨j, y, rfl, _⟩ := h
    rfl
  · obtain ⟨j, y, rfl, q⟩ := h
    refine ⟨_, pss_cons (ps_if (pt_not (pt_val (pe_callB call_isi (by rfl) mi (by decide +kernel) (pa_cons (pv 0) (pa_cons (pe_bltn (v := .ty "str") (u := .type "str") (by rfl) ms (by decide +kernel) rfl) pa_nil))))) pss_never pss_nil)
      (pss_one (ps_ret (pe_lst (pa_cons pe_int (pa_cons (pe_ifExp (pt_val (pe_call G hr rfl mG kG bG .nil pass0 (pa_cons (pv 0) (pa_cons (pv 1) pa_nil)))) pe_int pe_int)
        (pa_cons pe_int (pa_cons pe_int (pa_cons pe_int (pa_cons pe_int (pa_cons pe_int (pa_cons pe_int (pa_cons pe_int (pa_cons pe_int (pa_cons pe_int (pa_cons pe_int pa_nil))))))))))))))), ?_⟩
    refine ⟨_, rfl, _, _, _, _, true, rfl, .ty "str", .base (.str _), rfl, _, rfl, ?_⟩
    refine iteF ?_
    refine ⟨_, rfl, _, rfl, j, y, rfl, _, rfl, ?_⟩
    cases hl : leap j y with
    | false =>
      refine iteF ⟨(by show 12 ≤ sizeLine; decide), fun p hp => ?_⟩
      have q := q p hp
      have e : (mons j y) = [31, 28, 31, 30, 31, 30, 31, 31, 30, 31, 30, 31] := by
        unfold mons feb
        rw [hl]
        rfl
      rw [e] at q
      exact q
    | true =>
      refine iteT ⟨(by show 12 ≤ sizeLine; decide), fun p hp => ?_⟩
      have q := q p hp
      have e : (mons j y) = [31, 29, 31, 30, 31, 30, 31, 31, 30, 31, 30, 31] := by
        unfold mons feb
        rw [hl]
        rfl
      rw [e] at q
      exact q
theorem ok_lIsDate {f g g2 : Addr} {fd gd gd2 : FuncData} (F : Fun K "_law_is_date" "_law_is_date" sLIsDate f fd)
    (G : FnOk P w K mg base CX0 2 g gd ["_law_calendar_here", "_law_year"] spMonths) (bG : Binds K gd ["_law_calendar_here", "_law_year"] []) (kG : PySem.W.keepIn K (.ref g) = true) (mG : mg "_law_months" = some (.ref g))
    (G2 : FnOk P w K mg base CX0 1 g2 gd2 ["_law_calendar_here", "_law_year"] spFirst) (bG2 : Binds K gd2 ["_law_calendar_here", "_law_year"] []) (kG2 : PySem.W.keepIn K (.ref g2) = true) (mG2 : mg "_law_first" = some (.ref g2))
    (mr : mg "range" = none) (ms : mg "sum" = none) : FnOk P w K mg base CX0 3 f fd ["_law_calendar_here", "_law_month", "_law_number", "_law_day"] spIsDate := by
  refine F.ok scLIsDate (fun vs H Q E h => ?_) (fun cdv A outer s H vs Q E hr h => ?_)
  · obtain ⟨j, m, n, d, rfl, _⟩ := h
    rfl
  · obtain ⟨j, m, n, d, rfl, m1, m2, n1, h1, h2, q⟩ := h
    refine ⟨_, pss_cons (ps_for PassesOwn.never rfl (pi_range2 (by rfl) mr (pa_cons (pe_op op_sub (pe_op op_fdiv (pv 3) pe_int) pe_int) (pa_cons (pe_op op_add (pe_op op_fdiv (pv 3) pe_int) pe_int) pa_nil))) (pg_name (i := 4) scLIsDate.nd rfl (.inl rfl))
        (pss_cons (ps_set (i := 5) scLIsDate.nd rfl (.inl rfl) (pe_call G hr rfl mG kG bG .nil pass0 (pa_cons (pv 0) (pa_cons (pv 4) pa_nil))))
        (pss_one (ps_if (pt_cmpR op_le (pv 2) (pe_ix ix_list (pv 5) (pe_op op_sub (pv 1) pe_int) (fun _ _ => rfl)) (nomark _))
          (pss_one (ps_if (pt_cmpR op_eq (pe_op op_sub (pe_op op_add (pe_op op_add (pe_call G2 (hr.mono (by decide)) rfl mG2 kG2 bG2 .nil pass0 (pa_cons (pv 0) (pa_cons (pv 4) pa_nil)))
              (pe_callB (cr_sum rfl) (by rfl) ms (by decide +kernel) (pa_cons (pe_slice sl_list (pv 5) po_none (po_some (pe_op op_sub (pv 1) pe_int))) pa_nil))) (pv 2)) pe_int) (pv 3) (nomark _))
            (pss_one (ps_ret pe_bl)) pss_nil)) pss_nil))))
      (pss_one (ps_ret pe_bl)), ?_⟩
    refine ⟨_, rfl, _, _, rfl, rfl, ⟨by decide, by decide⟩, _, _, rfl, rfl, _, rfl, _, _, rfl, rfl, ⟨by decide, by decide⟩, _, _, rfl, rfl, ?_⟩
    refine ⟨_, _, rfl, ⟨by omega, by omega, by omega, by omega⟩, for_range (lo := d / 366 - 1) (n := (d / 365 + 3 - (d / 366 - 1)).toNat) (fun i σ H2 => ∃ o o2 : Option V, σ = [some (.str (cal j)), some (.int m), some (.int n), some (.int d), o, o2] ∧ Same H H2 ∧
        ∀ y l, d / 366 - 1 ≤ y → y < d / 366 - 1 + i → (mons j y)[m - 1]? = some l → n ≤ l → fst j y + acc j y (m - 1) + n - 1 = d → False)
      ⟨none, none, rfl, Same.refl _, fun y l y1 y2 => by omega⟩ ?_ ?_⟩
    · rintro i σ H2 hi ⟨o, o2, rfl, sm, no⟩
      refine ⟨_, rfl, _, rfl, j, d / 366 - 1 + i, rfl, fun p hp => ?_⟩
      obtain ⟨l, hl⟩ := mon_at j (d / 366 - 1 + i) (m := m - 1) (by omega)
      have em : (m : Int) - 1 = ((m - 1 : Nat) : Int) := by omega
      have hlV : ((mons j (d / 366 - 1 + i)).map V.int)[m - 1]? = some (.int l) := by
        rw [List.getElem?_map, hl]
        rfl
      refine ⟨_, rfl, _, rfl, _, rfl, _, _, rfl, rfl, p, _, _, _, rfl, rfl, SqL.of upd_same, by rw [em]; exact atI_nat hlV, _, _, rfl, rfl, _, rfl, ite2 (fun c => ?_) (fun c => ?_)⟩
      · have c : n ≤ l := of_decide_eq_true c
        refine ⟨_, rfl, _, rfl, j, _, rfl, _, rfl, _, rfl, _, _, rfl, rfl, _, rfl, p, _, rfl, SqL.of upd_same, fun p2 hp2 => ?_⟩
        have ecut : cutV ((mons j (d / 366 - 1 + i)).map V.int) none (some ((m : Int) - 1)) = ((mons j (d / 366 - 1 + i)).take (m - 1)).map V.int := by
          rw [em, cut_take _ _ (by rw [List.length_map, mons_len]; omega), List.map_take]
        rw [ecut]
        have s2 : Same H (upd (upd H2 p (.lst ((mons j (d / 366 - 1 + i)).map V.int))) p2 (.lst (((mons j (d / 366 - 1 + i)).take (m - 1)).map V.int))) := sm.trans ((same_new hp).trans (same_new hp2))
        refine ⟨p2, _, rfl, SqL.of upd_same, _, _, rfl, rfl, _, rfl, _, _, rfl, rfl, _, _, rfl, rfl, _, rfl, rfl, _, rfl, ite2 (fun c2 => ?_) (fun c2 => ?_)⟩
        · have c2 := V.int.inj (of_decide_eq_true c2)
          refine q true _ ⟨fun _ => ⟨_, l, hl, c, c2⟩, fun _ => rfl⟩ s2
        · have c2 := of_decide_eq_false (Bool.eq_false_iff.mpr c2)
          refine ⟨_, _, rfl, s2, fun y k y1 y2 k1 k2 k3 => ?_⟩
          by_cases e : y = d / 366 - 1 + i
          · subst e
            exact c2 (congrArg V.int k3)
          · exact no y k y1 (by omega) k1 k2 k3
      · have c : ¬ n ≤ l := of_decide_eq_false (Bool.eq_false_iff.mpr c)
        refine ⟨_, _, rfl, sm.trans (same_new hp), fun y k y1 y2 k1 k2 k3 => ?_⟩
        by_cases e : y = d / 366 - 1 + i
        · subst e
          rw [hl] at k1
          cases k1
          exact c k2
        · exact no y k y1 (by omega) k1 k2 k3
    · rintro σ H2 ⟨o, o2, rfl, sm, no⟩
      refine q false H2 ⟨fun z => (Bool.noConfusion z), fun z => ?_⟩ sm
      obtain ⟨y, l, y1, y2, k1, k2, k3⟩ := (law_date n1 h1 h2).mp z
      exact (no y l y1 (by omega) k1 k2 k3).elim
end
end Al

set_option Elab.async false
set_option linter.all false
set_option maxRecDepth 100000
set_option maxHeartbeats 4000000
/-! A feast and the facts as they stand in the heap; is_day, is_first. -/
namespace Al
open PySem PySem.Spec PyProof.Rows L2
def nm : TN → Str
  | .full => "full"
  | .spring => "spring"
  | .non => "none"
/-- the word ahead -/
def kw : Feast → Str
  | .wk _ => "weekday"
  | .date _ _ _ => "date"
  | .told _ => "told"
  | .shift _ _ => "shift"
  | .no _ => "not"
  | .both _ _ => "and"
  | .either _ _ => "or"
  | .first _ _ => "first"
/-- the feast stands at a -/
def FAt (H : Hp) : Feast → Addr → Prop
  | .wk w, a => H a = some (.tup [.str "weekday", .int w])
  | .date j m n, a => H a = some (.tup [.str "date", .str (cal j), .int m, .int n])
  | .told t, a => H a = some (.tup [.str "told", .str (nm t)])
  | .shift f n, a => ∃ b, H a = some (.tup [.str "shift", .ref b, .int n]) ∧ FAt H f b
  | .no f, a => ∃ b, H a = some (.tup [.str "not", .ref b]) ∧ FAt H f b
  | .both f g, a => ∃ b c, H a = some (.tup [.str "and", .ref b, .ref c]) ∧ FAt H f b ∧ FAt H g c
  | .either f g, a => ∃ b c, H a = some (.tup [.str "or", .ref b, .ref c]) ∧ FAt H f b ∧ FAt H g c
  | .first f g, a => ∃ b c, H a = some (.tup [.str "first", .ref b, .ref c]) ∧ FAt H f b ∧ FAt H g c
theorem FAt.mono {H H' : Hp} (k : ∀ b xs, H b = some (.tup xs) → H' b = some (.tup xs)) : ∀ {f : Feast} {a : Addr}, FAt H f a → FAt H' f a
  | .wk _, _, h => k _ _ h
  | .date _ _ _, _, h => k _ _ h
  | .told _, _, h => k _ _ h
  | .shift _ _, _, ⟨b, h, x⟩ => ⟨b, k _ _ h, FAt.mono k x⟩
  | .no _, _, ⟨b, h, x⟩ => ⟨b, k _ _ h, FAt.mono k x⟩
  | .both _ _, _, ⟨b, c, h, x, y⟩ => ⟨b, c, k _ _ h, FAt.mono k x, FAt.mono k y⟩
  | .either _ _, _, ⟨b, c, h, x, y⟩ => ⟨b, c, k _ _ h, FAt.mono k x, FAt.mono k y⟩
  | .first _ _, _, ⟨b, c, h, x, y⟩ => ⟨b, c, k _ _ h, FAt.mono k x, FAt.mono k y⟩
theorem FAt.same {H H' : Hp} {f : Feast} {a : Addr} (h : FAt H f a) (k : Same H H') : FAt H' f a := h.mono fun b xs e => k b _ e
theorem FAt.head {H : Hp} : ∀ {f : Feast} {a : Addr}, FAt H f a → ∃ r, H a = some (.tup (.str (kw f) :: r))
  | .wk _, _, h => ⟨_, h⟩
  | .date _ _ _, _, h => ⟨_, h⟩
  | .told _, _, h => ⟨_, h⟩
  | .shift _ _, _, ⟨b, h, x⟩ => ⟨_, h⟩
  | .no _, _, ⟨b, h, x⟩ => ⟨_, h⟩
  | .both _ _, _, ⟨b, c, h, x, y⟩ => ⟨_, h⟩
  | .either _ _, _, ⟨b, c, h, x, y⟩ => ⟨_, h⟩
  | .first _ _, _, ⟨b, c, h, x, y⟩ => ⟨_, h⟩
theorem sne {a b : Str} (h : a ≠ b) (e : decide (V.str a = V.str b) = true) : False := h (V.str.inj (of_decide_eq_true e))
theorem kw_wk {f : Feast} (h : decide (V.str (kw f) = V.str "weekday") = true) : ∃ w, f = .wk w := by
  cases f with
  | wk w => exact ⟨w, rfl⟩
  | _ => exact (sne (by unfold kw; dsimp only; decide +kernel) h).elim
theorem kw_date {f : Feast} (h : decide (V.str (kw f) = V.str "date") = true) : ∃ j m n, f = .date j m n := by
  cases f with
  | date j m n => exact ⟨j, m, n, rfl⟩
  | _ => exact (sne (by unfold kw; dsimp only; decide +kernel) h).elim
theorem kw_told {f : Feast} (h : decide (V.str (kw f) = V.str "told") = true) : ∃ t, f = .told t := by
  cases f with
  | told t => exact ⟨t, rfl⟩
  | _ => exact (sne (by unfold kw; dsimp only; decide +kernel) h).elim
theorem kw_shift {f : Feast} (h : decide (V.str (kw f) = V.str "shift") = true) : ∃ a n, f = .shift a n := by
  cases f with
  | shift a n => exact ⟨a, n, rfl⟩
  | _ => exact (sne (by unfold kw; dsimp only; decide +kernel) h).elim
theorem kw_no {f : Feast} (h : decide (V.str (kw f) = V.str "not") = true) : ∃ a, f = .no a := by
  cases f with
  | no a => exact ⟨a, rfl⟩
  | _ => exact (sne (by unfold kw; dsimp only; decide +kernel) h).elim
theorem kw_both {f : Feast} (h : decide (V.str (kw f) = V.str "and") = true) : ∃ a b, f = .both a b := by
  cases f with
  | both a b => exact ⟨a, b, rfl⟩
  | _ => exact (sne (by unfold kw; dsimp only; decide +kernel) h).elim
theorem kw_either {f : Feast} (h : decide (V.str (kw f) = V.str "or") = true) : ∃ a b, f = .either a b := by
  cases f with
  | either a b => exact ⟨a, b, rfl⟩
  | _ => exact (sne (by unfold kw; dsimp only; decide +kernel) h).elim
theorem kw_first {f : Feast} (h : decide (V.str (kw f) = V.str "first") = true) : ∃ a b, f = .first a b := by
  cases f with
  | first a b => exact ⟨a, b, rfl⟩
  | _ => exact (sne (by unfold kw; dsimp only; decide +kernel) h).elim
theorem kw_last {f : Feast} (h1 : ¬ decide (V.str (kw f) = V.str "weekday") = true) (h2 : ¬ decide (V.str (kw f) = V.str "date") = true) (h3 : ¬ decide (V.str (kw f) = V.str "told") = true) (h4 : ¬ decide (V.str (kw f) = V.str "shift") = true)
    (h5 : ¬ decide (V.str (kw f) = V.str "and") = true) (h6 : ¬ decide (V.str (kw f) = V.str "or") = true) (h7 : ¬ decide (V.str (kw f) = V.str "not") = true) : ∃ a b, f = .first a b := by
  cases f with
  | first a b => exact ⟨a, b, rfl⟩
  | wk _ => exact absurd (decide_eq_true rfl) h1
  | date _ _ _ => exact absurd (decide_eq_true rfl) h2
  | told _ => exact absurd (decide_eq_true rfl) h3
  | shift _ _ => exact absurd (decide_eq_true rfl) h4
  | both _ _ => exact absurd (decide_eq_true rfl) h5
  | either _ _ => exact absurd (decide_eq_true rfl) h6
  | no _ => exact absurd (decide_eq_true rfl) h7
/-! ### the facts -/
/-- the facts' dict -/
def fkv (l1 l2 : Addr) : List (Key × V) := [(Sum.inr "full", .ref l1), (Sum.inr "spring", .ref l2)]
def FactsAt (H : Hp) (fa : Addr) (F : TN → List Int) : Prop := ∃ l1 l2, H fa = some (.dK (fkv l1 l2)) ∧ H l1 = some (.lst ((F .full).map V.int)) ∧ H l2 = some (.lst ((F .spring).map V.int)) ∧ F .non = []
theorem FactsAt.same {H H' : Hp} {fa : Addr} {F : TN → List Int} (h : FactsAt H fa F) (k : Same H H') : FactsAt H' fa F := by
  obtain ⟨l1, l2, a, b, c, d⟩ := h
  exact ⟨l1, l2, k _ _ a, k _ _ b, k _ _ c, d⟩
/-- all that was there stands, but at d (no fact stands there) -/
theorem FactsAt.kp {H H' : Hp} {fa d : Addr} {F : TN → List Int} {o : HO} (h : FactsAt H fa F) (hd : H d = some o) (n1 : ∀ kvs, o ≠ .dK kvs) (n2 : ∀ xs, o ≠ .lst xs) (k : Kp d H H') : FactsAt H' fa F := by
  obtain ⟨l1, l2, a, b, c, e⟩ := h
  exact ⟨l1, l2, k _ _ (ne_of a hd (n1 _).symm) a, k _ _ (ne_of b hd (n2 _).symm) b, k _ _ (ne_of c hd (n2 _).symm) c, e⟩
theorem ne_fs : ¬ ((Sum.inr (nm .full) : Key) = Sum.inr (nm .spring)) := fun z => absurd (Sum.inr.inj z) (by decide +kernel)
theorem ne_fn : ¬ ((Sum.inr (nm .full) : Key) = Sum.inr (nm .non)) := fun z => absurd (Sum.inr.inj z) (by decide +kernel)
theorem ne_sn : ¬ ((Sum.inr (nm .spring) : Key) = Sum.inr (nm .non)) := fun z => absurd (Sum.inr.inj z) (by decide +kernel)
theorem fkv_full (l1 l2 : Addr) : valV (fkv l1 l2) (Sum.inr (nm .full) : Key) = some (.ref l1) := valV_pos rfl
theorem fkv_spring (l1 l2 : Addr) : valV (fkv l1 l2) (Sum.inr (nm .spring) : Key) = some (.ref l2) := (valV_neg ne_fs).trans (valV_pos rfl)
theorem fkv_non (l1 l2 : Addr) : valV (fkv l1 l2) (Sum.inr (nm .non) : Key) = none := (valV_neg ne_fn).trans ((valV_neg ne_sn).trans rfl)
theorem FactsAt.get {K : PySem.W.Frag} {H : Hp} {fa p : Addr} {F : TN → List Int} (h : FactsAt H fa F) (hp : H p = some (.lst [])) (t : TN) :
    ∃ (o : Option V) (l : Addr), DGet H fa (.str (nm t)) o ∧ o.getD (.ref p) = .ref l ∧ SqL K H l ((F t).map V.int) := by
  obtain ⟨l1, l2, a, b, c, e⟩ := h
  have g := DGet.k (k := Sum.inr (nm t)) a
  cases t with
  | full => exact ⟨_, l1, g, by rw [fkv_full]; rfl, SqL.of b⟩
  | spring => exact ⟨_, l2, g, by rw [fkv_spring]; rfl, SqL.of c⟩
  | non => exact ⟨_, p, g, by rw [fkv_non]; rfl, by rw [e]; exact SqL.of hp⟩
theorem flat_ints (ns : List Int) : (ns.map V.int).all flatV = true := by
  rw [List.all_map]
  exact List.all_eq_true.mpr fun _ _ => rfl
theorem in_ints (d : Int) (ns : List Int) : inV (.int d) (ns.map V.int) = true ↔ d ∈ ns := by
  unfold inV
  rw [List.any_map, List.any_eq_true]
  constructor
  · rintro ⟨x, hx, e⟩
    have e : (x == d) = true := e
    rw [← eq_of_beq e]
    exact hx
  · intro h
    exact ⟨d, h, (by show (d == d) = true; exact beq_self_eq_true d)⟩
/-- days that are near enough -/
def inR (n : Nat) (d : Int) : Prop := -20000 + 1000 * (n : Int) ≤ d ∧ d ≤ 2000000 - 1000 * (n : Int)
theorem inR.sub {n : Nat} {d e : Int} (h : inR (n + 1) d) (h1 : d - 1000 ≤ e) (h2 : e ≤ d + 1000) : inR n e := by
  unfold inR at *
  omega
theorem inR.base {n : Nat} {d : Int} (h : inR n d) : -20000 ≤ d ∧ d ≤ 2000000 := by
  unfold inR at h
  omega
def spIsDay (F : TN → List Int) (n : Nat) : Sp := fun vs H Q _ => ∃ (a fa : Addr) (f : Feast) (d : Int), vs = [.ref a, .ref fa, .int d] ∧ FAt H f a ∧ FactsAt H fa F ∧ f.ok ∧ f.deep ≤ n ∧ inR n d ∧ ∀ H', Same H H' → Q (.bl (bh F f d)) H'
def spIsFirst (F : TN → List Int) (n : Nat) : Sp := fun vs H Q _ => ∃ (a fa : Addr) (x y : Feast) (d : Int), vs = [.ref a, .ref fa, .int d] ∧ FAt H (.first x y) a ∧ FactsAt H fa F ∧ (Feast.first x y).ok ∧ (Feast.first x y).deep ≤ n ∧ inR n d ∧ ∀ H', Same H H' → Q (.bl (bh F (.first x y) d)) H'
abbrev sIsDay : Stmt := top 12
abbrev sIsFirst : Stmt := top 13
theorem scIsDay : FnScope ["feast", "facts", "day", "kind"] ["feast", "facts", "day"] (defScope sIsDay) := ⟨rfl, rfl, rfl, by decide +kernel, rfl, by decide +kernel, by decide +kernel⟩
theorem scIsFirst : FnScope ["feast", "facts", "day", "_", "wanted", "behind", "back"] ["feast", "facts", "day"] (defScope sIsFirst) := ⟨rfl, rfl, rfl, by decide +kernel, rfl, by decide +kernel, by decide +kernel⟩
theorem cut_drop (xs : List V) (k : Nat) (h : k ≤ xs.length) : cutV xs (some (k : Int)) none = xs.drop k := by
  unfold cutV
  rw [HT.sIx_nat, HT.sIx_none, show min k xs.length = k by omega]
  rw [List.take_of_length_le]
  rw [List.length_drop]
  exact Nat.le_refl _
theorem eqv2 (a b c d : Int) : PyData.eqv (.tuple [.int a, .int b]) (.tuple [.int c, .int d]) = true ↔ a = c ∧ b = d := by
  simp [PyData.eqv, PyData.eqvAll]
end Al

set_option Elab.async false
set_option linter.all false
set_option maxRecDepth 100000
set_option maxHeartbeats 4000000
/-! is_day, is_first. -/
namespace Al
open PySem PySem.Spec PyProof.Rows L2
theorem deep_pos (f : Feast) : 1 ≤ f.deep := by
  cases f <;> simp only [Feast.deep] <;> omega
section
variable {P : Program} {w : World} {K : PySem.W.Frag} {mg : Str → Option Value} {base : Heap} {F : TN → List Int}
theorem ok_isDay {n : Nat} {f g1 g2 gd gf : Addr} {fd fd1 fd2 fdd fdf : FuncData} (FF : Fun K "is_day" "is_day" sIsDay f fd)
    (G1 : FnOk P w K mg base CX0 1 g1 fd1 ["day"] spWeekday) (b1 : Binds K fd1 ["day"] []) (k1 : PySem.W.keepIn K (.ref g1) = true) (m1 : mg "weekday" = some (.ref g1))
    (G2 : FnOk P w K mg base CX0 3 g2 fd2 ["calendar", "day"] spDate) (b2 : Binds K fd2 ["calendar", "day"] []) (k2 : PySem.W.keepIn K (.ref g2) = true) (m2 : mg "date_of" = some (.ref g2))
    (Gd : FnOk P w K mg base CX0 (6 + 2 * n) gd fdd ["feast", "facts", "day"] (spIsDay F n)) (bd : Binds K fdd ["feast", "facts", "day"] []) (kd : PySem.W.keepIn K (.ref gd) = true) (md : mg "is_day" = some (.ref gd))
    (Gf : FnOk P w K mg base CX0 (7 + 2 * n) gf fdf ["feast", "facts", "day"] (spIsFirst F (n + 1))) (bf : Binds K fdf ["feast", "facts", "day"] []) (kf : PySem.W.keepIn K (.ref gf) = true) (mf : mg "is_first" = some (.ref gf)) :
    FnOk P w K mg base CX0 (7 + 2 * n + 1) f fd ["feast", "facts", "day"] (spIsDay F (n + 1)) := by
  refine FF.ok scIsDay (fun vs H Q E h => ?_) (fun cdv A outer s H vs Q E hr h => ?_)
  · obtain ⟨a, fa, f, d, rfl, _⟩ := h
    rfl
  · obtain ⟨a, fa, f, d, rfl, hF, hfa, hok, hdeep, hR, q⟩ := h
    have hu := hu_of hr
    have hrd : Room (6 + 2 * n) _ := hr.mono (by omega)
    refine ⟨_, pss_cons (ps_set (i := 3) scIsDay.nd rfl (.inl rfl) (pe_ix ix_tup (pv 0) pe_int (fun _ _ => rfl)))
      (pss_cons (ps_if (pt_cmpR op_eq (pv 3) pe_str (nomark _)) (pss_one (ps_ret (pe_cmpR op_eq (pe_call G1 (hr.mono (by omega)) (by rfl) m1 k1 b1 .nil pass0 (pa_cons (pv 2) pa_nil)) (pe_ix ix_tup (pv 0) pe_int (fun _ _ => rfl)) (nomark _)))) pss_nil)
      (pss_cons (ps_if (pt_cmpR op_eq (pv 3) pe_str (nomark _)) (pss_one (ps_ret (pe_cmpR (op_eqD hr.units)
        (pe_slice sl_tup (pe_call G2 (hr.mono (by omega)) (by rfl) m2 k2 b2 .nil pass0 (pa_cons (pe_ix ix_tup (pv 0) pe_int (fun _ _ => rfl)) (pa_cons (pv 2) pa_nil))) (po_some pe_int) po_none) (pe_slice sl_tup (pv 0) (po_some pe_int) po_none) (nomark _)))) pss_nil)
      (pss_cons (ps_if (pt_cmpR op_eq (pv 3) pe_str (nomark _)) (pss_one (ps_ret (pe_cmpR op_in_seq (pv 2) (pe_dget2 hu (pv 1) (pe_ix ix_tup (pv 0) pe_int (fun _ _ => rfl)) (pe_lst pa_nil) ⟨rfl, rfl, rfl, rfl⟩) (by rfl)))) pss_nil)
      (pss_cons (ps_if (pt_cmpR op_eq (pv 3) pe_str (nomark _)) (pss_one (ps_ret (pe_call Gd hrd (by rfl) md kd bd .nil pass0 (pa_cons (pe_ix ix_tup (pv 0) pe_int (fun _ _ => rfl)) (pa_cons (pv 1) (pa_cons (pe_op op_sub (pv 2) (pe_ix ix_tup (pv 0) pe_int (fun _ _ => rfl))) pa_nil)))))) pss_nil)
      (pss_cons (ps_if (pt_cmpR op_eq (pv 3) pe_str (nomark _)) (pss_one (ps_ret (pe_and (pe_call Gd hrd (by rfl) md kd bd .nil pass0 (pa_cons (pe_ix ix_tup (pv 0) pe_int (fun _ _ => rfl)) (pa_cons (pv 1) (pa_cons (pv 2) pa_nil))))
        (pe_one (pe_call Gd hrd (by rfl) md kd bd .nil pass0 (pa_cons (pe_ix ix_tup (pv 0) pe_int (fun _ _ => rfl)) (pa_cons (pv 1) (pa_cons (pv 2) pa_nil)))))))) pss_nil)
      (pss_cons (ps_if (pt_cmpR op_eq (pv 3) pe_str (nomark _)) (pss_one (ps_ret (pe_or (pe_call Gd hrd (by rfl) md kd bd .nil pass0 (pa_cons (pe_ix ix_tup (pv 0) pe_int (fun _ _ => rfl)) (pa_cons (pv 1) (pa_cons (pv 2) pa_nil))))
        (pe_one (pe_call Gd hrd (by rfl) md kd bd .nil pass0 (pa_cons (pe_ix ix_tup (pv 0) pe_int (fun _ _ => rfl)) (pa_cons (pv 1) (pa_cons (pv 2) pa_nil)))))))) pss_nil)
      (pss_cons (ps_if (pt_cmpR op_eq (pv 3) pe_str (nomark _)) (pss_one (ps_ret (pe_not (pe_call Gd hrd (by rfl) md kd bd .nil pass0 (pa_cons (pe_ix ix_tup (pv 0) pe_int (fun _ _ => rfl)) (pa_cons (pv 1) (pa_cons (pv 2) pa_nil))))))) pss_nil)
      (pss_one (ps_ret (pe_call Gf hr (by rfl) mf kf bf .nil pass0 (pa_cons (pv 0) (pa_cons (pv 1) (pa_cons (pv 2) pa_nil))))))))))))), ?_⟩
    obtain ⟨r, hh⟩ := hF.head
    refine ⟨_, rfl, a, _, 0, _, rfl, rfl, SqT.of hh, atI_nat (j := 0) rfl, ?_⟩
    obtain ⟨r1, r2⟩ := hR.base
    have hR0 : inR n d := hR.sub (by omega) (by omega)
    -- weekday
    refine ⟨_, rfl, rfl, _, rfl, ite2 (fun c => ?_) (fun c1 => ?_)⟩
    · obtain ⟨v, rfl⟩ := kw_wk c
      have hF : H a = some (.tup [.str "weekday", .int v]) := hF
      refine ⟨_, rfl, d, rfl, _, rfl, a, _, 1, .int v, rfl, rfl, SqT.of hF, atI_nat (j := 1) rfl, rfl, ?_⟩
      have e : bh F (.wk v) d = decide (V.int ((d - 1) % 7) = V.int v) := bh_iff (by
        rw [dec_vint]
        exact decide_eq_true_iff)
      rw [← e]
      exact q H (Same.refl H)
    -- date
    refine ⟨_, rfl, rfl, _, rfl, ite2 (fun c => ?_) (fun c2 => ?_)⟩
    · obtain ⟨j, m, k, rfl⟩ := kw_date c
      have hF : H a = some (.tup [.str "date", .str (cal j), .int m, .int k]) := hF
      obtain ⟨o1, o2, o3⟩ := hok
      refine ⟨_, rfl, a, _, 1, .str (cal j), rfl, rfl, SqT.of hF, atI_nat (j := 1) rfl, _, rfl, j, d, rfl, r1, r2, fun y i H1 p hy hi a1 a2 s1 hp => ?_⟩
      refine ⟨_, rfl, p, _, rfl, SqT.of hp, fun z => Nat.noConfusion z.1, fun p1 hp1 => ?_⟩
      refine ⟨_, rfl, _, rfl, a, _, rfl, SqT.of (same_new hp1 _ _ (s1 _ _ hF)), fun z => Nat.noConfusion z.1, fun p2 hp2 => ?_⟩
      have d1 : upd (upd H1 p1 (.tup (cutV [.int y, .int ((i : Int) + 1), .int (d - fst j y - acc j y i + 1)] (some 1) none))) p2 (.tup (cutV [.str "date", .str (cal j), .int m, .int k] (some 2) none)) p1 = some (.tup [.int ((i : Int) + 1), .int (d - fst j y - acc j y i + 1)]) := same_new hp2 _ _ upd_same
      have d2 : upd (upd H1 p1 (.tup (cutV [.int y, .int ((i : Int) + 1), .int (d - fst j y - acc j y i + 1)] (some 1) none))) p2 (.tup (cutV [.str "date", .str (cal j), .int m, .int k] (some 2) none)) p2 = some (.tup [.int m, .int k]) := upd_same
      refine ⟨.tuple [.int ((i : Int) + 1), .int (d - fst j y - acc j y i + 1)], .tuple [.int m, .int k], .tup (SqT.of d1) (.cons (.int _) (.cons (.int _) .nil)), .tup (SqT.of d2) (.cons (.int _) (.cons (.int _) .nil)), rfl, rfl, ?_⟩
      have e : bh F (.date j m k) d = PyData.eqv (.tuple [.int ((i : Int) + 1), .int (d - fst j y - acc j y i + 1)]) (.tuple [.int m, .int k]) := bh_iff (by
        rw [eqv2]
        exact prog_date o1 o2 o3 hy hi a1 a2)
      rw [← e]
      exact q _ (s1.trans ((same_new hp1).trans (same_new hp2)))
    -- told
    refine ⟨_, rfl, rfl, _, rfl, ite2 (fun c => ?_) (fun c3 => ?_)⟩
    · obtain ⟨t, rfl⟩ := kw_told c
      have hF : H a = some (.tup [.str "told", .str (nm t)]) := hF
      obtain ⟨l1, l2, hfd, _⟩ := id hfa
      refine ⟨_, rfl, _, rfl, fa, rfl, .inl ⟨_, .inl hfd⟩, _, rfl, a, _, 1, .str (nm t), rfl, rfl, SqT.of hF, atI_nat (j := 1) rfl, Nat.zero_le _, fun p hp => ?_⟩
      obtain ⟨o, l, g, e, hl⟩ := (hfa.same (same_new hp)).get (K := K) upd_same t
      refine ⟨o, g, ?_⟩
      rw [e]
      refine ⟨l, _, rfl, .inl hl, rfl, flat_ints _, ?_⟩
      have e2 : bh F (.told t) d = inV (.int d) ((F t).map V.int) := bh_iff (in_ints d (F t))
      show Q (.bl (inV (.int d) ((F t).map V.int))) _
      rw [← e2]
      exact q _ (same_new hp)
    -- shift
    refine ⟨_, rfl, rfl, _, rfl, ite2 (fun c => ?_) (fun c4 => ?_)⟩
    · obtain ⟨x, k, rfl⟩ := kw_shift c
      obtain ⟨b, hF, hx⟩ := (show ∃ b, H a = some (.tup [.str "shift", .ref b, .int k]) ∧ FAt H x b from hF)
      obtain ⟨o1, o2, o3⟩ := hok
      have hd : x.deep + 1 ≤ n + 1 := hdeep
      refine ⟨_, rfl, a, _, 1, .ref b, rfl, rfl, SqT.of hF, atI_nat (j := 1) rfl, _, rfl, _, rfl, _, rfl, a, _, 2, .int k, rfl, rfl, SqT.of hF, atI_nat (j := 2) rfl, d, k, rfl, rfl, ?_⟩
      exact ⟨b, fa, x, d - k, rfl, hx, hfa, o1, by omega, hR.sub (by omega) (by omega), fun H1 s1 => q H1 s1⟩
    -- and
    refine ⟨_, rfl, rfl, _, rfl, ite2 (fun c => ?_) (fun c5 => ?_)⟩
    · obtain ⟨x, y, rfl⟩ := kw_both c
      obtain ⟨b1', b2', hF, hx, hy⟩ := (show ∃ b c, H a = some (.tup [.str "and", .ref b, .ref c]) ∧ FAt H x b ∧ FAt H y c from hF)
      obtain ⟨o1, o2⟩ := hok
      have hd : max x.deep y.deep + 1 ≤ n + 1 := hdeep
      refine ⟨_, rfl, a, _, 1, .ref b1', rfl, rfl, SqT.of hF, atI_nat (j := 1) rfl, _, rfl, _, rfl, b1', fa, x, d, rfl, hx, hfa, o1, by omega, hR0, fun H1 s1 => ⟨_, rfl, ?_⟩⟩
      refine ite2 (fun t => ?_) (fun t => ?_)
      · refine ⟨_, rfl, a, _, 2, .ref b2', rfl, rfl, SqT.of (s1 _ _ hF), atI_nat (j := 2) rfl, _, rfl, _, rfl, b2', fa, y, d, rfl, hy.same s1, hfa.same s1, o2, by omega, hR0, fun H2 s2 => ?_⟩
        have e : bh F (.both x y) d = bh F y d := bh_iff (by
          rw [bh_true]
          exact ⟨fun z => ⟨bh_true.mp t, z⟩, fun z => z.2⟩)
        rw [← e]
        exact q _ (s1.trans s2)
      · have e : bh F (.both x y) d = false := bh_false.mpr fun z => t (bh_true.mpr z.1)
        rw [← e]
        exact q _ s1
    -- or
    refine ⟨_, rfl, rfl, _, rfl, ite2 (fun c => ?_) (fun c6 => ?_)⟩
    · obtain ⟨x, y, rfl⟩ := kw_either c
      obtain ⟨b1', b2', hF, hx, hy⟩ := (show ∃ b c, H a = some (.tup [.str "or", .ref b, .ref c]) ∧ FAt H x b ∧ FAt H y c from hF)
      obtain ⟨o1, o2⟩ := hok
      have hd : max x.deep y.deep + 1 ≤ n + 1 := hdeep
      refine ⟨_, rfl, a, _, 1, .ref b1', rfl, rfl, SqT.of hF, atI_nat (j := 1) rfl, _, rfl, _, rfl, b1', fa, x, d, rfl, hx, hfa, o1, by omega, hR0, fun H1 s1 => ⟨_, rfl, ?_⟩⟩
      refine ite2 (fun t => ?_) (fun t => ?_)
      · have e : bh F (.either x y) d = true := bh_true.mpr (.inl (bh_true.mp t))
        rw [← e]
        exact q _ s1
      · refine ⟨_, rfl, a, _, 2, .ref b2', rfl, rfl, SqT.of (s1 _ _ hF), atI_nat (j := 2) rfl, _, rfl, _, rfl, b2', fa, y, d, rfl, hy.same s1, hfa.same s1, o2, by omega, hR0, fun H2 s2 => ?_⟩
        have e : bh F (.either x y) d = bh F y d := bh_iff (by
          rw [bh_true]
          exact ⟨fun z => .inr z, fun z => z.resolve_left fun u => t (bh_true.mpr u)⟩)
        rw [← e]
        exact q _ (s1.trans s2)
    -- not
    refine ⟨_, rfl, rfl, _, rfl, ite2 (fun c => ?_) (fun c7 => ?_)⟩
    · obtain ⟨x, rfl⟩ := kw_no c
      obtain ⟨b, hF, hx⟩ := (show ∃ b, H a = some (.tup [.str "not", .ref b]) ∧ FAt H x b from hF)
      have hd : x.deep + 1 ≤ n + 1 := hdeep
      refine ⟨_, rfl, a, _, 1, .ref b, rfl, rfl, SqT.of hF, atI_nat (j := 1) rfl, _, rfl, _, rfl, b, fa, x, d, rfl, hx, hfa, hok, by omega, hR0, fun H1 s1 => ⟨_, rfl, ?_⟩⟩
      have e : bh F (.no x) d = !bh F x d := bh_iff (by
        rw [Bool.not_eq_true', bh_false]
        exact Iff.rfl)
      rw [← e]
      exact q _ s1
    -- first
    obtain ⟨x, y, rfl⟩ := kw_last c1 c2 c3 c4 c5 c6 c7
    exact ⟨_, rfl, _, rfl, _, rfl, a, fa, x, y, d, rfl, hF, hfa, hok, hdeep, hR, q⟩
theorem ok_isFirst {n : Nat} {f gd : Addr} {fd fdd : FuncData} {tk : Tok} (FF : Fun K "is_first" "is_first" sIsFirst f fd)
    (Gd : FnOk P w K mg base CX0 (6 + 2 * n) gd fdd ["feast", "facts", "day"] (spIsDay F n)) (bd : Binds K fdd ["feast", "facts", "day"] []) (kd : PySem.W.keepIn K (.ref gd) = true) (md : mg "is_day" = some (.ref gd))
    (mr : mg "range" = none) (mF : mg "FARTHEST" = some (.int 400 tk)) :
    FnOk P w K mg base CX0 (6 + 2 * n + 1) f fd ["feast", "facts", "day"] (spIsFirst F (n + 1)) := by
  refine FF.ok scIsFirst (fun vs H Q E h => ?_) (fun cdv A outer s H vs Q E hr h => ?_)
  · obtain ⟨a, fa, x, y, d, rfl, _⟩ := h
    rfl
  · obtain ⟨a, fa, x, y, d, rfl, hF, hfa, ⟨o1, o2⟩, hdeep, hR, q⟩ := h
    obtain ⟨b, c, hF, hx, hy⟩ := (show ∃ b c, H a = some (.tup [.str "first", .ref b, .ref c]) ∧ FAt H x b ∧ FAt H y c from hF)
    have hd : max x.deep y.deep + 1 ≤ n + 1 := hdeep
    refine ⟨_, pss_cons (ps_asg (pv 0) (pg_tup rfl (pgs_cons (pg_name (i := 3) scIsFirst.nd rfl (.inl rfl)) (pgs_cons (pg_name (i := 4) scIsFirst.nd rfl (.inl rfl)) (pgs_cons (pg_name (i := 5) scIsFirst.nd rfl (.inl rfl)) pgs_nil)))))
      (pss_cons (ps_if (pt_not (pt_val (pe_call Gd hr (by rfl) md kd bd .nil pass0 (pa_cons (pv 4) (pa_cons (pv 1) (pa_cons (pv 2) pa_nil)))))) (pss_one (ps_ret pe_bl)) pss_nil)
      (pss_cons (ps_for PassesOwn.never rfl (pi_range1 (by rfl) mr (pa_cons (pe_op op_add (pe_glob (v := .int 400) rfl mF ⟨_, rfl⟩) pe_int) pa_nil)) (pg_name (i := 6) scIsFirst.nd rfl (.inl rfl))
        (pss_cons (ps_if (PW.pt (pw_and (pt_cmpR op_gt (pv 6) pe_int (nomark _)) (pw_and1 (pt_val (pe_call Gd hr (by rfl) md kd bd .nil pass0 (pa_cons (pv 4) (pa_cons (pv 1) (pa_cons (pe_op op_sub (pv 2) (pv 6)) pa_nil)))))))) (pss_one (ps_ret pe_bl)) pss_nil)
        (pss_one (ps_if (pt_val (pe_call Gd hr (by rfl) md kd bd .nil pass0 (pa_cons (pv 5) (pa_cons (pv 1) (pa_cons (pe_op op_sub (pv 2) (pv 6)) pa_nil))))) (pss_one (ps_ret pe_bl)) pss_nil))))
      (pss_one (ps_ret pe_bl)))), ?_⟩
    refine ⟨_, rfl, a, _, rfl, SqT.of hF, rfl, _, _, rfl, _, _, rfl, _, _, rfl, rfl, ?_⟩
    refine ⟨_, rfl, _, rfl, _, rfl, b, fa, x, d, rfl, hx, hfa, o1, by omega, hR.sub (by omega) (by omega), fun H1 s1 => ⟨_, rfl, ?_⟩⟩
    cases hb : bh F x d with
    | false =>
      refine iteT ?_
      have e : bh F (.first x y) d = false := bh_false.mpr fun z => bh_false.mp hb z.1
      show Q (.bl false) H1
      rw [← e]
      exact q _ s1
    | true =>
      refine iteF ⟨_, _, rfl, rfl, _, rfl, (by decide), (by decide), for_range (lo := 0) (n := 401) (fun i σ H2 => ∃ o : Option V, σ = [some (.ref a), some (.ref fa), some (.int d), some (.str "first"), some (.ref b), some (.ref c), o] ∧ Same H H2 ∧ PFst F x y d i) ⟨none, rfl, s1, pfst_zero⟩ ?_ ?_⟩
      · rintro i σ H2 hi ⟨o, rfl, s2, hP⟩
        have hx0 := bh_true.mp hb
        have ei : d - (0 + (i : Int)) = d - (i : Int) := by omega
        have hRi : inR n (d - (0 + (i : Int))) := hR.sub (by omega) (by omega)
        -- if back > 0 and ..
        refine ⟨_, rfl, _, _, rfl, rfl, _, rfl, ?_⟩
        have step : ∀ H3, Same H H3 → (1 ≤ i → ¬ holds F x (d - i)) → tIfS (tB (tCall (spIsDay F n) [] E0 (tCons (tVar 5) (tCons (tVar 1) (tCons (tOp (rI0 fun i j => .int (i - j)) (tVar 2) (tVar 6)) tNil))))) (tRet (tC (.bl true))) tNext
            { nx := fun σ H2 => ∃ o : Option V, σ = [some (.ref a), some (.ref fa), some (.int d), some (.str "first"), some (.ref b), some (.ref c), o] ∧ Same H H2 ∧ PFst F x y d (i + 1), rt := Q } [some (.ref a), some (.ref fa), some (.int d), some (.str "first"), some (.ref b), some (.ref c), some (.int (0 + (i : Int)))] H3 := fun H3 s3 hn => by
          refine ⟨_, rfl, _, rfl, _, rfl, _, rfl, _, _, rfl, rfl, c, fa, y, d - (0 + (i : Int)), rfl, hy.same s3, hfa.same s3, o2, by omega, hRi, fun H4 s4 => ⟨_, rfl, ?_⟩⟩
          refine ite2 (fun t => ?_) (fun t => ?_)
          · have t := bh_true.mp t
            rw [ei] at t
            have e : bh F (.first x y) d = true := bh_true.mpr (pfst_here hP (by omega) hx0 hn t)
            show Q (.bl true) H4
            rw [← e]
            exact q _ (s3.trans s4)
          · refine ⟨_, rfl, s3.trans s4, pfst_next hP hn fun z => t (bh_true.mpr ?_)⟩
            rw [ei]
            exact z
        refine ite2 (fun c1 => ?_) (fun c1 => ?_)
        · have c1 : 0 < 0 + (i : Int) := of_decide_eq_true c1
          refine ⟨_, rfl, _, rfl, _, rfl, _, rfl, _, _, rfl, rfl, b, fa, x, d - (0 + (i : Int)), rfl, hx.same s2, hfa.same s2, o1, by omega, hRi, fun H3 s3 => ⟨_, rfl, ?_⟩⟩
          refine ite2 (fun t => ?_) (fun t => ?_)
          · have t := bh_true.mp t
            rw [ei] at t
            have e : bh F (.first x y) d = false := bh_false.mpr (pfst_stop hP (by omega) t)
            show Q (.bl false) H3
            rw [← e]
            exact q _ (s2.trans s3)
          · refine step H3 (s2.trans s3) fun _ z => t (bh_true.mpr ?_)
            rw [ei]
            exact z
        · have c1 : ¬ 0 < 0 + (i : Int) := of_decide_eq_false (Bool.eq_false_iff.mpr c1)
          refine iteF ?_
          exact step H2 s2 fun z => absurd z (by omega)
      · rintro σ H2 ⟨o, rfl, s2, hP⟩
        have e : bh F (.first x y) d = false := bh_false.mpr (pfst_end hP)
        show Q (.bl false) H2
        rw [← e]
        exact q _ s2
end
end Al

set_option Elab.async false
set_option linter.all false
set_option maxRecDepth 100000
set_option maxHeartbeats 4000000
/-! Words beyond the layer: a dict that a comprehension walks stays locked, dict comprehensions over ranges, lists, dicts; sets of days as dicts. -/
namespace Al
open PySem PySem.Spec PyProof.Rows L2
section
variable {X : Cx}
/-- the value is an object that is locked from here on -/
def tFrz (t : TE) : TE := fun σ H Q => t σ H fun x H1 => ∃ d u, x = .ref d ∧ H1 d = some u ∧ Mut (some u) ∧ ∀ od, Q x (upd H1 d (.frz od u))
theorem pe_frz {e : Expr} {t : TE} (h : PE X e t) : PE X e (tFrz t) := by
  refine ⟨fun pins s σ H Q I hw => ?_⟩
  refine thn (h.run pins s σ H _ I hw) fun v s1 ⟨x, H1, I1, r, d, u, e1, e2, mu, q⟩ => ?_
  obtain ⟨od, I2⟩ := I1.lock e2 mu
  exact ⟨x, _, I2, r, q od⟩
/-- one turn of a dict comprehension -/
abbrev dcTurn (g : TG) (tt : TT) (tk tv : TE) (vs : List Nat) (σ : L2.St) (D : Addr) (x : V) (H : Hp) (Nx : Hp → Prop) : Prop :=
  g x (wipe σ vs) H fun σ2 H2 => wipe σ2 vs = wipe σ vs ∧ tt σ2 H2 fun b H3 =>
    if b = true then tk σ2 H3 fun y H4 => tv σ2 H4 fun z H5 => ∃ kvs k, y = kV k ∧ H5 D = some (.dK kvs) ∧ kvs.length < sizeLine ∧ Nx (upd H5 D (.dK (putK kvs k z))) else Nx H3
variable {g : TG} {tt : TT} {tk tv : TE} {vs : List Nat} {σ : L2.St} {H1 : Hp} {D : Addr} {Qd : Hp → Prop}
theorem dc_range {lo : Int} {n : Nat} (Pv : Nat → Hp → Prop) (h0 : Pv 0 (upd H1 D (.dK [])))
    (hs : ∀ i H, i < n → Pv i H → dcTurn g tt tk tv vs σ D (.int (lo + i)) H (Pv (i + 1))) (hd : ∀ H, Pv n H → Qd H) :
    ∃ W : Nat → Nat → Hp → Prop, (∃ m, W 0 m (upd H1 D (.dK []))) ∧ ∀ i m H, W i m H →
      ((Itr lo n).stop i H ∧ Qd H) ∨ ((Itr lo n).go i H ∧ ∃ Nx : Hp → Prop, (∀ H', Nx H' → ∃ m', m' < m ∧ W (i + 1) m' H') ∧ ∀ x H', (Itr lo n).yld i H x H' → dcTurn g tt tk tv vs σ D x H' Nx) := by
  refine ⟨fun i m H => m = n - i ∧ i ≤ n ∧ Pv i H, ⟨n, rfl, Nat.zero_le _, h0⟩, ?_⟩
  rintro i m H ⟨rfl, hi, p⟩
  by_cases hlt : i < n
  · refine .inr ⟨hlt, Pv (i + 1), fun H' p' => ⟨n - (i + 1), by omega, rfl, hlt, p'⟩, fun x H' y => ?_⟩
    obtain ⟨e1, e2⟩ := y
    rw [e1, e2]
    exact hs i H hlt p
  · have e : i = n := by omega
    rw [e] at p ⊢
    exact .inl ⟨Nat.le_refl _, hd H p⟩
theorem dc_keys {d : Addr} {o : Obj} {kvs : List (Key × V)} (Pv : Nat → Hp → Prop) (h0 : Pv 0 (upd H1 D (.dK []))) (hl : ∀ i H, Pv i H → H d = some (.frz o (.dK kvs)))
    (hs : ∀ i k v H, kvs[i]? = some (k, v) → Pv i H → dcTurn g tt tk tv vs σ D (kV k) H (Pv (i + 1))) (hd : ∀ H, Pv kvs.length H → Qd H) :
    ∃ W : Nat → Nat → Hp → Prop, (∃ m, W 0 m (upd H1 D (.dK []))) ∧ ∀ i m H, W i m H →
      ((Itk d o kvs).stop i H ∧ Qd H) ∨ ((Itk d o kvs).go i H ∧ ∃ Nx : Hp → Prop, (∀ H', Nx H' → ∃ m', m' < m ∧ W (i + 1) m' H') ∧ ∀ x H', (Itk d o kvs).yld i H x H' → dcTurn g tt tk tv vs σ D x H' Nx) := by
  refine ⟨fun i m H => m = kvs.length - i ∧ i ≤ kvs.length ∧ Pv i H, ⟨kvs.length, rfl, Nat.zero_le _, h0⟩, ?_⟩
  rintro i m H ⟨rfl, hi, p⟩
  by_cases hlt : i < kvs.length
  · refine .inr ⟨⟨hl i H p, hlt⟩, Pv (i + 1), fun H' p' => ⟨kvs.length - (i + 1), by omega, rfl, hlt, p'⟩, fun x H' y => ?_⟩
    obtain ⟨e1, k, v, e2, e3⟩ := y
    rw [e1, e3]
    exact hs i k v H e2 p
  · have e : i = kvs.length := by omega
    rw [e] at p ⊢
    exact .inl ⟨⟨hl _ H p, Nat.le_refl _⟩, hd H p⟩
theorem dc_list {K : PySem.W.Frag} {a : Addr} {xs : List V} (Pv : Nat → Hp → Prop) (h0 : Pv 0 (upd H1 D (.dK []))) (hl : ∀ i H, Pv i H → SqL K H a xs)
    (hs : ∀ i x H, xs[i]? = some x → Pv i H → dcTurn g tt tk tv vs σ D x H (Pv (i + 1))) (hd : ∀ H, Pv xs.length H → Qd H) :
    ∃ W : Nat → Nat → Hp → Prop, (∃ m, W 0 m (upd H1 D (.dK []))) ∧ ∀ i m H, W i m H →
      ((Itl K a).stop i H ∧ Qd H) ∨ ((Itl K a).go i H ∧ ∃ Nx : Hp → Prop, (∀ H', Nx H' → ∃ m', m' < m ∧ W (i + 1) m' H') ∧ ∀ x H', (Itl K a).yld i H x H' → dcTurn g tt tk tv vs σ D x H' Nx) := by
  refine ⟨fun i m H => m = xs.length - i ∧ i ≤ xs.length ∧ Pv i H, ⟨xs.length, rfl, Nat.zero_le _, h0⟩, ?_⟩
  rintro i m H ⟨rfl, hi, p⟩
  have q := hl i H p
  by_cases hlt : i < xs.length
  · refine .inr ⟨⟨xs, xs[i], q, List.getElem?_eq_getElem hlt⟩, Pv (i + 1), fun H' p' => ⟨xs.length - (i + 1), by omega, rfl, hlt, p'⟩, fun x H' y => ?_⟩
    obtain ⟨e1, y⟩ := y
    rw [e1]
    exact hs i x H (y xs q) p
  · have e : i = xs.length := by omega
    rw [e] at p ⊢
    exact .inl ⟨⟨xs, hl _ H p, Nat.le_refl _⟩, hd H p⟩
end
/-! ### a dict as a set of days -/
theorem nodup_len {α : Type} [DecidableEq α] : ∀ (l m : List α), l.Nodup → (∀ x ∈ l, x ∈ m) → l.length ≤ m.length
  | [], _, _, _ => Nat.zero_le _
  | x :: l, m, h, k => by
    obtain ⟨h1, h2⟩ := List.nodup_cons.mp h
    have hx := k x List.mem_cons_self
    have ih := nodup_len l (m.erase x) h2 fun y hy => by
      refine (List.mem_erase_of_ne ?_).mpr (k y (List.mem_cons_of_mem _ hy))
      rintro rfl
      exact h1 hy
    rw [List.length_erase_of_mem hx] at ih
    have hp : 0 < m.length := List.length_pos_of_mem hx
    rw [List.length_cons]
    omega
structure DS (kvs : List (Key × V)) (S : Int → Prop) : Prop where
  int : ∀ p ∈ kvs, ∃ k, p.1 = Sum.inl k
  nd : (kvs.map (·.1)).Nodup
  iff : ∀ k : Int, (valV kvs (Sum.inl k : Key)).isSome = true ↔ S k
theorem DS.nil : DS [] (fun _ => False) := ⟨fun p h => absurd h (List.not_mem_nil), List.nodup_nil, fun k => by simp [valV]⟩
theorem DS.congr {kvs : List (Key × V)} {S T : Int → Prop} (h : DS kvs S) (e : ∀ k, S k ↔ T k) : DS kvs T := ⟨h.int, h.nd, fun k => (h.iff k).trans (e k)⟩
theorem DS.mem {kvs : List (Key × V)} {S : Int → Prop} (h : DS kvs S) {k : Int} : (Sum.inl k : Key) ∈ kvs.map (·.1) ↔ S k := by
  rw [← h.iff]
  constructor
  · intro m
    cases e : valV kvs (Sum.inl k : Key) with
    | none => exact absurd m (valV_not e)
    | some v => rfl
  · intro m
    obtain ⟨v, e⟩ := Option.isSome_iff_exists.mp m
    exact valV_in e
theorem putK_keys {kvs : List (Key × V)} {k : Key} {v w : V} (h : valV kvs k = some w) : (putK kvs k v).map (·.1) = kvs.map (·.1) := by
  unfold putK
  rw [valV_any, h]
  simp only [Option.isSome_some, if_true]
  rw [List.map_map]
  refine List.map_congr_left fun p _ => ?_
  show (if p.1 = k then (p.1, v) else p).1 = p.1
  split <;> rfl
theorem DS.put {kvs : List (Key × V)} {S : Int → Prop} (h : DS kvs S) (k : Int) (v : V) : DS (putK kvs (Sum.inl k) v) (fun x => S x ∨ x = k) := by
  have keys : ∀ q ∈ (putK kvs (Sum.inl k) v).map (·.1), q ∈ kvs.map (·.1) ∨ q = Sum.inl k := by
    intro q hq
    cases e : valV kvs (Sum.inl k : Key) with
    | some w => rw [putK_keys e] at hq; exact .inl hq
    | none =>
      rw [putK_new v e, List.map_append] at hq
      rcases List.mem_append.mp hq with z | z
      · exact .inl z
      · exact .inr (List.mem_singleton.mp z)
  refine ⟨fun p hp => ?_, ?_, fun x => ?_⟩
  · rcases keys p.1 (List.mem_map.mpr ⟨p, hp, rfl⟩) with z | z
    · obtain ⟨q, hq, e⟩ := List.mem_map.mp z
      obtain ⟨i, hi⟩ := h.int q hq
      exact ⟨i, e.symm.trans hi⟩
    · exact ⟨k, z⟩
  · cases e : valV kvs (Sum.inl k : Key) with
    | some w => rw [putK_keys e]; exact h.nd
    | none => exact nd_putK v h.nd e
  · rw [valV_put]
    by_cases e : x = k
    · subst e
      simp
    · rw [if_neg fun z => e (Sum.inl.inj z), h.iff]
      exact ⟨fun z => .inl z, fun z => z.resolve_right e⟩
theorem DS.len {kvs : List (Key × V)} {S : Int → Prop} (h : DS kvs S) {lo hi : Int} (b : ∀ k, S k → lo ≤ k ∧ k ≤ hi) : kvs.length ≤ (hi - lo + 1).toNat := by
  have q := nodup_len (kvs.map (·.1)) ((List.range (hi - lo + 1).toNat).map fun i : Nat => (Sum.inl (lo + (i : Int)) : Key)) h.nd fun x hx => by
    obtain ⟨p, hp, e⟩ := List.mem_map.mp hx
    obtain ⟨k, hk⟩ := h.int p hp
    have e2 : x = Sum.inl k := e.symm.trans hk
    subst e2
    have sk := b k (h.mem.mp hx)
    exact List.mem_map.mpr ⟨(k - lo).toNat, List.mem_range.mpr (by omega), by rw [show lo + (((k - lo).toNat : Nat) : Int) = k by omega]⟩
  rw [List.length_map, List.length_map, List.length_range] at q
  exact q
theorem DS.at {kvs : List (Key × V)} {S : Int → Prop} (h : DS kvs S) {i : Nat} {k : Key} {v : V} (e : kvs[i]? = some (k, v)) : ∃ x, k = Sum.inl x ∧ S x := by
  have hm := List.mem_of_getElem? e
  obtain ⟨x, hx⟩ := h.int _ hm
  have hx : k = Sum.inl x := hx
  subst hx
  exact ⟨x, rfl, h.mem.mp (List.mem_map.mpr ⟨_, hm, rfl⟩)⟩
/-- the days that stand among the first i -/
def Upto (kvs : List (Key × V)) (i : Nat) (x : Int) : Prop := ∃ j v, j < i ∧ kvs[j]? = some (Sum.inl x, v)
theorem upto_all {kvs : List (Key × V)} {S : Int → Prop} (h : DS kvs S) (x : Int) : Upto kvs kvs.length x ↔ S x := by
  constructor
  · rintro ⟨j, v, _, e⟩
    obtain ⟨y, e1, e2⟩ := h.at e
    rw [Sum.inl.inj e1]
    exact e2
  · intro hx
    obtain ⟨p, hp, e⟩ := List.mem_map.mp (h.mem.mpr hx)
    obtain ⟨j, hj⟩ := List.getElem?_of_mem hp
    exact ⟨j, p.2, (List.getElem?_eq_some_iff.mp hj).1, by rw [hj, ← e]⟩
theorem upto_succ {kvs : List (Key × V)} {i : Nat} {y : Int} {v : V} (e : kvs[i]? = some (Sum.inl y, v)) (x : Int) : Upto kvs (i + 1) x ↔ Upto kvs i x ∨ x = y := by
  constructor
  · rintro ⟨j, u, hj, ej⟩
    by_cases q : j = i
    · subst q
      rw [e] at ej
      cases ej
      exact .inr rfl
    · exact .inl ⟨j, u, by omega, ej⟩
  · rintro (⟨j, u, hj, ej⟩ | rfl)
    · exact ⟨j, u, by omega, ej⟩
    · exact ⟨i, v, by omega, e⟩
theorem upto_zero {kvs : List (Key × V)} (x : Int) : Upto kvs 0 x ↔ False := ⟨fun ⟨_, _, h, _⟩ => absurd h (Nat.not_lt_zero _), fun h => h.elim⟩
end Al

set_option Elab.async false
set_option linter.all false
set_option maxRecDepth 100000
set_option maxHeartbeats 4000000
/-! A display made of two dicts, each with two stars ahead. -/
namespace Al
open PySem PySem.Spec PyProof.Rows L2
section
variable {prog : Program} {w : World} {K : Type} [DecidableEq K] {knd : KeyKind prog w K} {A : Around} {E : Value → Shared → Prop} {s : Shared}
theorem put_pairs {d : Addr} {kvs : List (K × Value)} {k : K} {key v : Value} {Q : Unit → Shared → Prop} (hkey : knd.is k key = true) (hm : s.heap.DictOf knd d kvs) (hsz : kvs.length ≤ sizeLine)
    (hQ : ∀ h', h'.DictOf knd d (stored kvs k v) → Heap.SameBut d s.heap h' → Q () { s with heap := h' }) : wpAny (model prog w) A (dictPut d (knd.hash k) key v) Q E s := by
  obtain ⟨ob, es, ep, h1, h2, h3, h4, h5, h6⟩ := hm
  have hes : es.size ≤ sizeLine := by
    have e1 := h5.length
    rw [Array.length_toList] at e1
    omega
  have ix : (es.findIdx? fun e => knd.is k e.key) = kvs.findIdx? fun kv => decide (kv.1 = k) := by
    rw [← h5.findIdx k]
    obtain ⟨l⟩ := es
    simp
  unfold dictPut
  refine wpAny_bind (wpAny_dictFind_of hkey h1 h3 h4 ?_)
  cases hi : es.findIdx? fun e => knd.is k e.key with
  | some i =>
    have there := any_of_findIdx_some (ix ▸ hi)
    refine wpAny_updateDict h1 h3 (hQ _ ⟨_, _, ep, Heap.get?_update_self _ h1 (Obj.isFreed_of_dict (Obj.data_mapDict h3 _)), h2.mapDict _, Obj.data_mapDict h3 _, h4.modify _ _, ?_, ?_⟩ (Heap.SameBut.update ..))
    · rw [stored, if_pos there]
      have hl : (es.toList.findIdx? fun e => knd.is k e.key) = some i := by
        rw [← hi]
        obtain ⟨l⟩ := es
        simp
      have z := h5.modify h6 hl v
      obtain ⟨l⟩ := es
      simpa using z
    · rw [stored, if_pos there, keys_map_store]
      exact h6
  | none =>
    have out : k ∉ kvs.map (·.1) := not_mem_of_findIdx_none (ix ▸ hi)
    have away : ¬ (kvs.any fun kv => decide (kv.1 = k)) = true := by
      rw [List.any_eq_true]
      rintro ⟨kv, q1, q2⟩
      exact out (List.mem_map.mpr ⟨kv, q1, of_decide_eq_true q2⟩)
    refine wpAny_updateDictKeys (hz := hes) h1 h3 (hQ _ ⟨_, _, ep + 1, Heap.get?_update_self _ h1 (Obj.isFreed_of_dict (Obj.data_mapDictKeys h3 _)), h2.mapDictKeys _, Obj.data_mapDictKeys h3 _, h4.push hkey _, ?_, ?_⟩ (Heap.SameBut.update ..))
    · rw [stored, if_neg away]
      have z := h5.append hkey (knd.hash k) v
      obtain ⟨l⟩ := es
      simpa using z
    · rw [stored, if_neg away, List.map_append, List.nodup_append]
      refine ⟨h6, by simp, fun a ha b hb e => ?_⟩
      rw [List.map_cons, List.map_nil, List.mem_singleton] at hb
      rw [e, hb] at ha
      exact out ha
theorem merge_pairs {d o : Addr} {kvs more : List (K × Value)} {Q : Unit → Shared → Prop} (hdo : d ≠ o) (hoS : (o == sysModules) = false) (hd : s.heap.DictOf knd d kvs) (ho : s.heap.DictOf knd o more) (hsz : kvs.length + more.length ≤ sizeLine)
    (hQ : ∀ h', h'.DictOf knd d (merged kvs more) → Heap.SameBut d s.heap h' → Q () { s with heap := h' }) : wpAny (model prog w) A (mergeMapping d (.ref o) false) Q E s := by
  obtain ⟨oo, es, ep, g1, g2, g3, g4, g5, g6⟩ := id ho
  obtain ⟨od, esd, epd, k1, k2, k3, k4, k5, k6⟩ := id hd
  unfold mergeMapping
  refine wpAny_bind (wpAny_isInstance ho.typeIs isSubtype_dict_dict ?_)
  rw [if_pos rfl]
  refine wpAny_bind (wpAny_specialOf ho.typeIs F.slot_dict_iter.lookup (wpAny_bind (wpAny_pure ?_)))
  rw [beq_self_eq_true]
  dsimp only
  rw [hoS, if_neg Bool.false_ne_true]
  refine wpAny_bind (wpAny_dictEntries k1 k3 ?_)
  have loop : wpAny (model prog w) A (do
      let l ← dictEntries o
      have size : Nat := l.size
      let epoch ← dictEpoch o
      forIn (List.range size) PUnit.unit fun i (_ : PUnit) => (do
          let l' ← dictEntries o
          match l'[i]? with
            | some e => do
              holding [e.key, e.val] (dictPut d e.hash e.key e.val)
              let ep' ← dictEpoch o
              if (ep' != epoch) = true then do
                  (unsupported "dict.changed-during-merge" : Sem PUnit)
                  pure (ForInStep.yield PUnit.unit)
                else pure (ForInStep.yield PUnit.unit)
            | _ => do
              (unsupported "dict.changed-during-merge" : Sem PUnit)
              pure (ForInStep.yield PUnit.unit) : Sem (ForInStep PUnit))
      pure ()) Q E s := by
    have hlen : more.length = es.size := by
      have e1 := g5.length
      rw [Array.length_toList] at e1
      omega
    refine wpAny_bind (wpAny_dictEntries g1 g3 ?_)
    refine wpAny_bind (wpAny_dictEpoch g1 g3 (wpAny_bind ?_))
    rw [List.range_eq_range']
    refine wpAny_forIn_list _ (fun rest _ s' => ∃ h' i, s' = { s with heap := h' } ∧ rest = List.range' i (es.size - i) ∧ i ≤ es.size ∧ h'.DictOf knd d (merged kvs (more.take i)) ∧ h'.get? o = some oo ∧ Heap.SameBut d s.heap h')
      _ ?_ ?_ _ _ ⟨s.heap, 0, rfl, rfl, Nat.zero_le _, (by simpa [merged] using hd), g1, Heap.SameBut.refl _ _⟩
    · rintro x rest b s' ⟨h', i, rfl, hr, hi, hd', go, sb⟩
      have hlt : i < es.size := by
        apply Nat.lt_of_le_of_ne hi
        rintro rfl
        rw [Nat.sub_self] at hr
        exact nomatch hr
      rw [show es.size - i = (es.size - (i + 1)) + 1 by omega, List.range'_succ] at hr
      injection hr with hx hrest
      subst hx
      refine wpAny_bind (wpAny_dictEntries go g3 ?_)
      rw [Array.getElem?_eq_getElem hlt]
      obtain ⟨⟨k, v⟩, hkv⟩ : ∃ kv, more[x]? = some kv := ⟨more[x]'(by rw [hlen]; exact hlt), List.getElem?_eq_getElem _⟩
      obtain ⟨hkey, hval⟩ := g5.get? (e := es[x]) (by simp [hlt]) hkv
      obtain ⟨k', hkey', hhash⟩ := g4 es[x] (Array.getElem_mem hlt)
      have ek : k' = k := knd.inj _ _ _ hkey' hkey
      subst ek
      dsimp only
      rw [hhash, hval]
      refine wpAny_bind (wpAny_holding (put_pairs hkey hd' ?_ fun h2 hd2 sb2 => ?_))
      · have e1 := merged_length_le kvs (more.take x)
        rw [List.length_take] at e1
        omega
      · have go2 : h2.get? o = some oo := (sb2.2 o (Ne.symm hdo)).trans go
        refine wpAny_bind (wpAny_dictEpoch go2 g3 ?_)
        rw [if_neg (by simp)]
        exact wpAny_pure ⟨h2, x + 1, rfl, hrest, hlt, (by rw [merged_take_succ kvs more x (k', v) hkv]; exact hd2), go2, sb.trans sb2⟩
    · rintro b s' ⟨h', i, rfl, hr, hi, hd', go, sb⟩
      have e : i = es.size := by
        apply Nat.le_antisymm hi
        apply Nat.le_of_not_lt
        intro lt
        rw [show es.size - i = (es.size - (i + 1)) + 1 by omega, List.range'_succ] at hr
        exact nomatch hr
      subst e
      rw [← hlen, List.take_length] at hd'
      exact wpAny_pure (hQ h' hd' sb)
  split
  · refine wpAny_bind (wpAny_dictEntries g1 g3 (wpAny_bind ?_))
    refine wpAny_forIn_array' _ (fun rest _ s' => s' = s ∧ ∀ e ∈ rest, ∃ k, knd.is k e.key = true) _ ?_ ?_ _ _ ⟨rfl, fun e he => ?_⟩
    · rintro e rest b s' ⟨rfl, hall⟩
      obtain ⟨k, hk⟩ := hall e List.mem_cons_self
      have hv := knd.byValue k _ hk
      obtain ⟨eh, ek, ev⟩ := e
      cases ek with
      | ref a => exact Bool.noConfusion (show false = true from hv)
      | _ => exact wpAny_pure ⟨rfl, fun e' he' => hall e' (List.mem_cons_of_mem _ he')⟩
    · rintro b s' ⟨rfl, _⟩
      exact loop
    · obtain ⟨k, hk, _⟩ := g4 e (Array.mem_toList_iff.mp he)
      exact ⟨k, hk⟩
  · exact loop
end
theorem two_stars {M : Model} {A : Around} {E : Value → Shared → Prop} {s : Shared} {Q : Value → Shared → Prop} (t1 t2 : Sem Value)
    (h : wpAny M A t1 (fun m1 s1 => ∀ E', wpAny M A (mergeMapping s.heap.objs.size m1 false) (fun _ s2 => wpAny M A t2 (fun m2 s3 => ∀ E', wpAny M A (mergeMapping s.heap.objs.size m2 false) (fun _ s4 => Q (.ref s.heap.objs.size) s4) E' s3) E s2) E' s1) E
      { s with heap := s.heap.push { cls := .type "dict", data := .dict #[] } }) : wpAny M A (dictDisplay [(none, t1), (none, t2)]) Q E s := by
  unfold dictDisplay
  dsimp only
  rw [List.forIn_cons]
  refine wpAny_bind (wpAny_bind ?_)
  refine wpAny_bind (wpAny_pure ?_)
  refine wpAny_bind (wpAny_alloc ?_)
  refine wpAny_bind (wpAny_holding (wpAny_mono h (fun m1 s1 h1 => ?_) fun _ _ x => x))
  refine wpAny_bind (wpAny_onRaise (wpAny_tryCatch (wpAny_onRaise (wpAny_holding (wpAny_mono (h1 _) (fun _ s2 h2 => wpAny_pure ?_) fun _ _ x => x)))))
  dsimp only
  rw [List.forIn_cons]
  refine wpAny_bind ?_
  refine wpAny_bind (wpAny_pure ?_)
  refine wpAny_bind (wpAny_pure ?_)
  refine wpAny_bind (wpAny_holding (wpAny_mono h2 (fun m2 s3 h3 => ?_) fun _ _ x => x))
  refine wpAny_bind (wpAny_onRaise (wpAny_tryCatch (wpAny_onRaise (wpAny_holding (wpAny_mono (h3 _) (fun _ s4 h4 => wpAny_pure ?_) fun _ _ x => x)))))
  dsimp only
  rw [List.forIn_nil]
  refine wpAny_pure ?_
  refine wpAny_bind (wpAny_pure ?_)
  exact wpAny_pure h4
def tStars (t1 t2 : TE) : TE := fun σ H Q => ∀ D, H D = none → t1 σ (upd H D (.dK [])) fun x1 H1 => ∃ a ka, x1 = .ref a ∧ D ≠ a ∧ H1 a = some (.dK ka) ∧ H1 D = some (.dK []) ∧
  t2 σ (upd H1 D (.dK (mergeK [] ka))) fun x2 H2 => ∃ b kb, x2 = .ref b ∧ D ≠ b ∧ H2 b = some (.dK kb) ∧ H2 D = some (.dK (mergeK [] ka)) ∧ (mergeK [] ka).length + kb.length ≤ sizeLine ∧ Q (.ref D) (upd H2 D (.dK (mergeK (mergeK [] ka) kb)))
theorem merge_step {X : Cx} {pins : List (Addr × Obj)} {σ : L2.St} {H : Hp} {s : Shared} {D a : Addr} {ka kd : List (Key × V)} {E : Value → Shared → Prop} {Q : Unit → Shared → Prop} (I : Inv X pins σ H s) (hDa : D ≠ a) (ha : H a = some (.dK ka)) (hD : H D = some (.dK kd)) (hz : kd.length + ka.length ≤ sizeLine)
    (h : ∀ s', Inv X pins σ (upd H D (.dK (mergeK kd ka))) s' → Q () s') : wpAny (model X.prog X.w) X.A (mergeMapping D (.ref a) false) Q E s := by
  obtain ⟨za, ya, va, ra, da⟩ := dk_of I.hok ha
  obtain ⟨zd, yd, vd, rd, dd⟩ := dk_of I.hok hD
  refine merge_pairs hDa ya dd da (by rw [← rd.length, ← ra.length]; exact hz) fun h' dd' sb => h _ ?_
  have he : ∃ q, h'.get? D = some q := let ⟨q, _, _, hq, _⟩ := dd'; ⟨q, hq⟩
  have hm : (mergeK kd ka).length ≤ sizeLine := by
    have e1 := length_mergeK ka kd
    omega
  exact d_write I (by rw [hD]; exact True.intro) sb he (dk_new hm yd (KV.merge ra rd) dd')
theorem pe_stars {X : Cx} {e1 e2 : Expr} {t1 t2 : TE} {pos : Pos} (h1 : PE X e1 t1) (h2 : PE X e2 t2) : PE X (.Dict [none, none] [e1, e2] pos) (tStars t1 t2) := by
  refine ⟨fun pins s σ H Q I q => ?_⟩
  rw [arm_eval_Dict]
  refine wpAny_bind (wpAny_standAt ?_)
  have hn := I.hok.fresh (Nat.le_refl s.heap.objs.size)
  have I1 := I.laid (a := s.heap.objs.size) (o := .dK []) (h' := s.heap.push { cls := .type "dict", data := .dict #[] }) (t' := s.toks) (fun _ _ q => Heap.get?_push_of_some _ q) (Nat.le_refl _) (dk_empty s.heap I.big)
  refine two_stars (do let x ← eval e1 X.env; standAt pos; pure x) (do let x ← eval e2 X.env; standAt pos; pure x) ?_
  refine wpAny_bind (thn (h1.run pins _ σ _ _ I1 (q _ hn)) fun m1 s1 ⟨x1, H1, I2, r1, a, ka, ex, hDa, ha, hD, q1⟩ => wpAny_bind (wpAny_standAt (wpAny_pure fun E' => ?_)))
  subst ex
  cases r1
  have hza : ([] : List (Key × V)).length + ka.length ≤ sizeLine := by
    have z := (dk_of I2.hok ha).1
    rw [List.length_nil]
    omega
  refine merge_step I2 hDa ha hD hza fun s2 I3 => ?_
  refine wpAny_bind (thn (h2.run pins _ σ _ _ I3 q1) fun m2 s3 ⟨x2, H2, I4, r2, b, kb, ex, hDb, hb, hD2, hz, q2⟩ => wpAny_bind (wpAny_standAt (wpAny_pure fun E' => ?_)))
  subst ex
  cases r2
  exact merge_step I4 hDb hb hD2 hz fun s4 I5 => ⟨.ref _, _, I5, rfl, q2⟩
/-! ### sets of days merged -/
theorem DS.merge : ∀ {more kvs : List (Key × V)} {S T : Int → Prop}, DS kvs S → (∀ p ∈ more, ∃ k, p.1 = Sum.inl k) → (∀ k : Int, (Sum.inl k : Key) ∈ more.map (·.1) ↔ T k) → DS (mergeK kvs more) (fun x => S x ∨ T x)
  | [], kvs, S, T, h, _, ht => h.congr fun k => ⟨fun z => .inl z, fun z => z.elim id fun y => absurd ((ht k).mpr y) (by simp)⟩
  | p :: r, kvs, S, T, h, hi, ht => by
    obtain ⟨j, hj⟩ := hi p List.mem_cons_self
    have e : mergeK kvs (p :: r) = mergeK (putK kvs (Sum.inl j) p.2) r := by
      show mergeK (putK kvs p.1 p.2) r = _
      rw [hj]
    rw [e]
    refine (DS.merge (T := fun k => (Sum.inl k : Key) ∈ r.map (·.1)) (h.put j p.2) (fun q hq => hi q (List.mem_cons_of_mem _ hq)) fun k => Iff.rfl).congr fun k => ?_
    rw [← ht k, List.map_cons, List.mem_cons, hj]
    constructor
    · rintro ((z | z) | z)
      · exact .inl z
      · exact .inr (.inl (congrArg Sum.inl z))
      · exact .inr (.inr z)
    · rintro (z | z | z)
      · exact .inl (.inl z)
      · exact .inl (.inr (Sum.inl.inj z))
      · exact .inr z
theorem DS.join {a b : List (Key × V)} {S T : Int → Prop} (ha : DS a S) (hb : DS b T) : DS (mergeK (mergeK [] a) b) (fun x => S x ∨ T x) :=
  (DS.merge (DS.merge DS.nil ha.int (fun k => ha.mem)) hb.int (fun k => hb.mem)).congr fun k => ⟨fun z => z.elim (fun y => .inl (y.elim False.elim id)) .inr, fun z => z.elim (fun y => .inl (.inr y)) .inr⟩
end Al

set_option Elab.async false
set_option linter.all false
set_option maxRecDepth 100000
set_option maxHeartbeats 4000000
/-! days_of, first_days, feast_days. -/
namespace Al
open PySem PySem.Spec PyProof.Rows L2
abbrev sFeastDays : Stmt := top 14
abbrev sDaysOf : Stmt := top 15
abbrev sFirstDays : Stmt := top 16
abbrev nDaysOf : List Str := ["feast", "facts", "first", "last", "kind", "moved", "others", "day"]
theorem scDaysOf : FnScope nDaysOf ["feast", "facts", "first", "last"] (defScope sDaysOf) := ⟨rfl, rfl, rfl, by decide +kernel, rfl, by decide +kernel, by decide +kernel⟩
abbrev nFirstDays : List Str := ["feast", "facts", "first", "last", "_", "wanted", "behind", "early", "goals", "starts", "found", "latest", "day"]
theorem scFirstDays : FnScope nFirstDays ["feast", "facts", "first", "last"] (defScope sFirstDays) := ⟨rfl, rfl, rfl, by decide +kernel, rfl, by decide +kernel, by decide +kernel⟩
abbrev nFeastDays : List Str := ["feast", "facts", "first", "last", "found", "day"]
theorem scFeastDays : FnScope nFeastDays ["feast", "facts", "first", "last"] (defScope sFeastDays) := ⟨rfl, rfl, rfl, by decide +kernel, rfl, by decide +kernel, by decide +kernel⟩
/-- the days of the feast from a first to a last one -/
abbrev Sset (F : TN → List Int) (f : Feast) (lo hi : Int) : Int → Prop := fun k => lo ≤ k ∧ k ≤ hi ∧ holds F f k
def spDaysOf (F : TN → List Int) (n : Nat) : Sp := fun vs H Q _ => ∃ (a fa : Addr) (f : Feast) (lo hi : Int), vs = [.ref a, .ref fa, .int lo, .int hi] ∧ FAt H f a ∧ FactsAt H fa F ∧ f.ok ∧ f.deep ≤ n ∧ inR n lo ∧ inR n hi ∧
  ∀ (H' : Hp) (p : Addr) (kvs : List (Key × V)), Same H H' → H p = none → H' p = some (.dK kvs) → DS kvs (Sset F f lo hi) → Q (.ref p) H'
def spFirstDays (F : TN → List Int) (n : Nat) : Sp := fun vs H Q _ => ∃ (a fa : Addr) (x y : Feast) (lo hi : Int), vs = [.ref a, .ref fa, .int lo, .int hi] ∧ FAt H (.first x y) a ∧ FactsAt H fa F ∧ (Feast.first x y).ok ∧ (Feast.first x y).deep ≤ n ∧ inR n lo ∧ inR n hi ∧
  ∀ (H' : Hp) (p : Addr) (kvs : List (Key × V)), Same H H' → H p = none → H' p = some (.dK kvs) → DS kvs (Sset F (.first x y) lo hi) → Q (.ref p) H'
theorem DS.small {kvs : List (Key × V)} {S : Int → Prop} {n : Nat} {lo hi : Int} (h : DS kvs S) (b : ∀ k, S k → lo ≤ k ∧ k ≤ hi) (h1 : inR n lo) (h2 : inR n hi) : kvs.length < sizeLine := by
  have e := h.len b
  have a1 := h1.base
  have a2 := h2.base
  rw [sizeLine_eq]
  omega
theorem dc_yes {i : Nat} {tk tv : TE} {vs : List Nat} {σ : L2.St} {D : Addr} {x : V} {H : Hp} {Nx : Hp → Prop} (h1 : wipe ((wipe σ vs).set i (some x)) vs = wipe σ vs)
    (h2 : tk ((wipe σ vs).set i (some x)) H fun y H4 => tv ((wipe σ vs).set i (some x)) H4 fun z H5 => ∃ kvs k, y = kV k ∧ H5 D = some (.dK kvs) ∧ kvs.length < sizeLine ∧ Nx (upd H5 D (.dK (putK kvs k z)))) : dcTurn (gName i) tYes tk tv vs σ D x H Nx := by
  refine ⟨h1, ?_⟩
  simp only [tYes, if_true]
  exact h2
section
variable {P : Program} {w : World} {K : PySem.W.Frag} {mg : Str → Option Value} {base : Heap} {F : TN → List Int}
theorem ok_daysOf {n : Nat} {f g1 gd gf : Addr} {fd fd1 fdd fdf : FuncData} (FF : Fun K "days_of" "days_of" sDaysOf f fd)
    (G1 : FnOk P w K mg base CX0 8 g1 fd1 ["feast", "facts", "day"] (spIsDay F 1)) (b1 : Binds K fd1 ["feast", "facts", "day"] []) (k1 : PySem.W.keepIn K (.ref g1) = true) (m1 : mg "is_day" = some (.ref g1))
    (Gd : FnOk P w K mg base CX0 (9 + 2 * n) gd fdd ["feast", "facts", "first", "last"] (spDaysOf F n)) (bd : Binds K fdd ["feast", "facts", "first", "last"] []) (kd : PySem.W.keepIn K (.ref gd) = true) (md : mg "days_of" = some (.ref gd))
    (Gf : FnOk P w K mg base CX0 (10 + 2 * n) gf fdf ["feast", "facts", "first", "last"] (spFirstDays F (n + 1))) (bf : Binds K fdf ["feast", "facts", "first", "last"] []) (kf : PySem.W.keepIn K (.ref gf) = true) (mf : mg "first_days" = some (.ref gf))
    (mr : mg "range" = none) :
    FnOk P w K mg base CX0 (10 + 2 * n + 1) f fd ["feast", "facts", "first", "last"] (spDaysOf F (n + 1)) := by
  refine FF.ok scDaysOf (fun vs H Q E h => ?_) (fun cdv A outer s H vs Q E hr h => ?_)
  · obtain ⟨a, fa, f, lo, hi, rfl, _⟩ := h
    rfl
  · obtain ⟨a, fa, f, lo, hi, rfl, hF, hfa, hok, hdeep, hR1, hR2, q⟩ := h
    have hu := hu_of hr
    have hrd : Room (9 + 2 * n) _ := hr.mono (by omega)
    refine ⟨_, pss_cons (ps_set (i := 4) scDaysOf.nd rfl (.inl rfl) (pe_ix ix_tup (pv 0) pe_int (fun _ _ => rfl)))
      -- shift
      (pss_cons (ps_if (pt_cmpR op_eq (pv 4) pe_str (nomark _))
        (pss_cons (ps_set (i := 5) scDaysOf.nd rfl (.inl rfl) (pe_call Gd hrd (by rfl) md kd bd .nil pass0 (pa_cons (pe_ix ix_tup (pv 0) pe_int (fun _ _ => rfl)) (pa_cons (pv 1)
          (pa_cons (pe_op op_sub (pv 2) (pe_ix ix_tup (pv 0) pe_int (fun _ _ => rfl))) (pa_cons (pe_op op_sub (pv 3) (pe_ix ix_tup (pv 0) pe_int (fun _ _ => rfl))) pa_nil))))))
        (pss_one (ps_ret (pe_dc (own := [("day", 7)]) (g := gName 7) (tt := tYes) (tk := tOp (rI0 fun i j => .int (i + j)) (tVar 7) (tOp (rIxT K) (tVar 0) (tC (.int 2)))) rfl scDaysOf.nd (pi_keys (pe_frz (pv 5))) (blkOk_by (own := [("day", 7)]) (N := nDaysOf) (sc := defScope sDaysOf) (by decide +kernel))
          (fun _ _ _ _ _ => pg_name (i := 7) scDaysOf.nd rfl (.inl rfl)) (fun _ _ _ _ _ => pts_nil) (fun _ _ _ _ _ => pe_op op_add (pv 7) (pe_ix ix_tup (pv 0) pe_int (fun _ _ => rfl))) (fun _ _ _ _ _ => pe_bl))))) pss_nil)
      -- and
      (pss_cons (ps_if (pt_cmpR op_eq (pv 4) pe_str (nomark _))
        (pss_cons (ps_set (i := 6) scDaysOf.nd rfl (.inr rfl) (pe_call Gd hrd (by rfl) md kd bd .nil pass0 (pa_cons (pe_ix ix_tup (pv 0) pe_int (fun _ _ => rfl)) (pa_cons (pv 1) (pa_cons (pv 2) (pa_cons (pv 3) pa_nil))))))
        (pss_one (ps_ret (pe_dc (own := [("day", 7)]) (g := gName 7) rfl scDaysOf.nd (pi_keys (pe_frz (pe_call Gd hrd (by rfl) md kd bd .nil pass0 (pa_cons (pe_ix ix_tup (pv 0) pe_int (fun _ _ => rfl)) (pa_cons (pv 1) (pa_cons (pv 2) (pa_cons (pv 3) pa_nil)))))))
          (blkOk_by (own := [("day", 7)]) (N := nDaysOf) (sc := defScope sDaysOf) (by decide +kernel))
          (fun _ _ _ _ _ => pg_name (i := 7) scDaysOf.nd rfl (.inl rfl)) (fun _ _ _ _ _ => pts_one (pt_cmp (pc_din hu (pv 7) (pv 6)))) (fun _ _ _ _ _ => pv 7) (fun _ _ _ _ _ => pe_bl))))) pss_nil)
      -- or
      (pss_cons (ps_if (pt_cmpR op_eq (pv 4) pe_str (nomark _))
        (pss_one (ps_ret (pe_stars (pe_call Gd hrd (by rfl) md kd bd .nil pass0 (pa_cons (pe_ix ix_tup (pv 0) pe_int (fun _ _ => rfl)) (pa_cons (pv 1) (pa_cons (pv 2) (pa_cons (pv 3) pa_nil)))))
          (pe_call Gd hrd (by rfl) md kd bd .nil pass0 (pa_cons (pe_ix ix_tup (pv 0) pe_int (fun _ _ => rfl)) (pa_cons (pv 1) (pa_cons (pv 2) (pa_cons (pv 3) pa_nil)))))))) pss_nil)
      -- not
      (pss_cons (ps_if (pt_cmpR op_eq (pv 4) pe_str (nomark _))
        (pss_cons (ps_set (i := 6) scDaysOf.nd rfl (.inr rfl) (pe_call Gd hrd (by rfl) md kd bd .nil pass0 (pa_cons (pe_ix ix_tup (pv 0) pe_int (fun _ _ => rfl)) (pa_cons (pv 1) (pa_cons (pv 2) (pa_cons (pv 3) pa_nil))))))
        (pss_one (ps_ret (pe_dc (own := [("day", 7)]) (g := gName 7) rfl scDaysOf.nd (pi_range2 (by rfl) mr (pa_cons (pv 2) (pa_cons (pe_op op_add (pv 3) pe_int) pa_nil)))
          (blkOk_by (own := [("day", 7)]) (N := nDaysOf) (sc := defScope sDaysOf) (by decide +kernel))
          (fun _ _ _ _ _ => pg_name (i := 7) scDaysOf.nd rfl (.inl rfl)) (fun _ _ _ _ _ => pts_one (pt_cmp (pc_dnotin hu (pv 7) (pv 6)))) (fun _ _ _ _ _ => pv 7) (fun _ _ _ _ _ => pe_bl))))) pss_nil)
      -- first
      (pss_cons (ps_if (pt_cmpR op_eq (pv 4) pe_str (nomark _))
        (pss_one (ps_ret (pe_call Gf hr (by rfl) mf kf bf .nil pass0 (pa_cons (pv 0) (pa_cons (pv 1) (pa_cons (pv 2) (pa_cons (pv 3) pa_nil))))))) pss_nil)
      -- told
      (pss_cons (ps_if (pt_cmpR op_eq (pv 4) pe_str (nomark _))
        (pss_one (ps_ret (pe_dc (own := [("day", 7)]) (g := gName 7) rfl scDaysOf.nd (pi_list (pe_dget2 hu (pv 1) (pe_ix ix_tup (pv 0) pe_int (fun _ _ => rfl)) (pe_lst pa_nil) ⟨rfl, rfl, rfl, rfl⟩))
          (blkOk_by (own := [("day", 7)]) (N := nDaysOf) (sc := defScope sDaysOf) (by decide +kernel))
          (fun _ _ _ _ _ => pg_name (i := 7) scDaysOf.nd rfl (.inl rfl)) (fun _ _ _ _ _ => pts_one (pt_chain op_le op_le (pv 2) (pv 7) (pv 3))) (fun _ _ _ _ _ => pv 7) (fun _ _ _ _ _ => pe_bl)))) pss_nil)
      -- the rest
      (pss_one (ps_ret (pe_dc (own := [("day", 7)]) (g := gName 7) rfl scDaysOf.nd (pi_range2 (by rfl) mr (pa_cons (pv 2) (pa_cons (pe_op op_add (pv 3) pe_int) pa_nil)))
          (blkOk_by (own := [("day", 7)]) (N := nDaysOf) (sc := defScope sDaysOf) (by decide +kernel))
          (fun _ _ _ _ _ => pg_name (i := 7) scDaysOf.nd rfl (.inl rfl)) (fun _ _ _ _ _ => pts_one (pt_val (pe_call G1 (hr.mono (by omega)) (by rfl) m1 k1 b1 .nil pass0 (pa_cons (pv 0) (pa_cons (pv 1) (pa_cons (pv 7) pa_nil)))))) (fun _ _ _ _ _ => pv 7) (fun _ _ _ _ _ => pe_bl)))))))))), ?_⟩
    obtain ⟨r, hh⟩ := hF.head
    refine ⟨_, rfl, a, _, 0, _, rfl, rfl, SqT.of hh, atI_nat (j := 0) rfl, ?_⟩
    have hL0 : inR n lo := hR1.sub (by omega) (by omega)
    have hH0 : inR n hi := hR2.sub (by omega) (by omega)
    -- shift
    refine ⟨_, rfl, rfl, _, rfl, ite2 (fun c => ?_) (fun c1 => ?_)⟩
    · obtain ⟨x, k, rfl⟩ := kw_shift c
      obtain ⟨b, hF, hx⟩ := (show ∃ b, H a = some (.tup [.str "shift", .ref b, .int k]) ∧ FAt H x b from hF)
      obtain ⟨o1, o2, o3⟩ := hok
      have hd : x.deep + 1 ≤ n + 1 := hdeep
      refine ⟨_, rfl, a, _, 1, .ref b, rfl, rfl, SqT.of hF, atI_nat (j := 1) rfl, _, rfl, _, rfl, _, rfl, a, _, 2, .int k, rfl, rfl, SqT.of hF, atI_nat (j := 2) rfl, lo, k, rfl, rfl, _, rfl, _, rfl, a, _, 2, .int k, rfl, rfl, SqT.of hF, atI_nat (j := 2) rfl, hi, k, rfl, rfl, ?_⟩
      refine ⟨b, fa, x, lo - k, hi - k, rfl, hx, hfa, o1, by omega, hR1.sub (by omega) (by omega), hR2.sub (by omega) (by omega), fun H1 p kvs s1 np hp ds => ?_⟩
      refine ⟨_, rfl, p, _, rfl, hp, True.intro, fun od => ⟨p, od, rfl, .inl ⟨kvs, upd_same, fun D hD => ?_⟩⟩⟩
      have sB : Same H (upd H1 p (.frz od (.dK kvs))) := fun c o e => by
        rw [upd_ne (ne_of_none e np)]
        exact s1 _ _ e
      have npD : p ≠ D := ne_of_none upd_same hD
      refine dc_keys (d := p) (o := od) (kvs := kvs) (fun i H' => ∃ acc, H' = upd (upd H1 p (.frz od (.dK kvs))) D (.dK acc) ∧ DS acc (fun z => Upto kvs i (z - k))) ⟨[], rfl, DS.nil.congr fun z => (upto_zero _).symm⟩ ?_ ?_ ?_
      · rintro i H' ⟨acc, rfl, _⟩
        rw [upd_ne npD, upd_same]
      · rintro i kk v H' hi' ⟨acc, rfl, da⟩
        obtain ⟨y, rfl, hy⟩ := ds.at hi'
        refine dc_yes rfl ?_
        refine ⟨_, rfl, _, rfl, a, _, 2, .int k, rfl, rfl, SqT.of (same_new hD _ _ (sB _ _ hF)), atI_nat (j := 2) rfl, y, k, rfl, rfl, acc, Sum.inl (y + k), rfl, upd_same, ?_, ?_⟩
        · exact da.small (lo := lo) (hi := hi) (fun z hz => by
            obtain ⟨j, u, _, e⟩ := hz
            obtain ⟨z', e1, e2⟩ := ds.at e
            have e1 := Sum.inl.inj e1
            have e3 := e2.1
            have e4 := e2.2.1
            omega) hR1 hR2
        · refine ⟨_, upd_upd, (da.put (y + k) (.bl true)).congr fun z => ?_⟩
          rw [upto_succ hi']
          constructor
          · rintro (z1 | z1)
            · exact .inl z1
            · exact .inr (by omega)
          · rintro (z1 | z1)
            · exact .inl z1
            · exact .inr (by omega)
      · rintro H' ⟨acc, rfl, da⟩
        refine q _ D acc (sB.trans (same_new hD)) (sB.free hD) upd_same (da.congr fun z => ?_)
        rw [upto_all ds]
        show (lo - k ≤ z - k ∧ z - k ≤ hi - k ∧ holds F x (z - k)) ↔ (lo ≤ z ∧ z ≤ hi ∧ holds F x (z - k))
        constructor
        · rintro ⟨z1, z2, z3⟩
          exact ⟨by omega, by omega, z3⟩
        · rintro ⟨z1, z2, z3⟩
          exact ⟨by omega, by omega, z3⟩
    -- and
    refine ⟨_, rfl, rfl, _, rfl, ite2 (fun c => ?_) (fun c2 => ?_)⟩
    · obtain ⟨x, y, rfl⟩ := kw_both c
      obtain ⟨b1', b2', hF, hx, hy⟩ := (show ∃ b c, H a = some (.tup [.str "and", .ref b, .ref c]) ∧ FAt H x b ∧ FAt H y c from hF)
      obtain ⟨o1, o2⟩ := hok
      have hd : max x.deep y.deep + 1 ≤ n + 1 := hdeep
      refine ⟨_, rfl, a, _, 2, .ref b2', rfl, rfl, SqT.of hF, atI_nat (j := 2) rfl, _, rfl, _, rfl, _, rfl, b2', fa, y, lo, hi, rfl, hy, hfa, o2, by omega, hL0, hH0, fun H1 p1 kv1 s1 np1 hp1 ds1 => ?_⟩
      refine ⟨_, rfl, a, _, 1, .ref b1', rfl, rfl, SqT.of (s1 _ _ hF), atI_nat (j := 1) rfl, _, rfl, _, rfl, _, rfl, b1', fa, x, lo, hi, rfl, hx.same s1, hfa.same s1, o1, by omega, hL0, hH0, fun H2 p2 kv2 s2 np2 hp2 ds2 => ?_⟩
      refine ⟨p2, _, rfl, hp2, True.intro, fun od => ⟨p2, od, rfl, .inl ⟨kv2, upd_same, fun D hD => ?_⟩⟩⟩
      have sB : Same H1 (upd H2 p2 (.frz od (.dK kv2))) := fun c o e => by
        rw [upd_ne (ne_of_none e np2)]
        exact s2 _ _ e
      have npD : p2 ≠ D := ne_of_none upd_same hD
      refine dc_keys (d := p2) (o := od) (kvs := kv2) (fun i H' => ∃ acc, H' = upd (upd H2 p2 (.frz od (.dK kv2))) D (.dK acc) ∧ DS acc (fun z => Upto kv2 i z ∧ Sset F y lo hi z)) ⟨[], rfl, DS.nil.congr fun z => ⟨False.elim, fun u => (upto_zero _).mp u.1⟩⟩ ?_ ?_ ?_
      · rintro i H' ⟨acc, rfl, _⟩
        rw [upd_ne npD, upd_same]
      · rintro i kk v H' hi' ⟨acc, rfl, da⟩
        obtain ⟨t, rfl, ht⟩ := ds2.at hi'
        refine ⟨rfl, _, rfl, _, rfl, p1, _, rfl, DGet.k (k := Sum.inl t) (same_new hD _ _ (sB _ _ hp1)), _, rfl, ite2 (fun g => ?_) (fun g => ?_)⟩
        · have g := (ds1.iff t).mp g
          refine ⟨_, rfl, acc, Sum.inl t, rfl, upd_same, da.small (lo := lo) (hi := hi) (fun z hz => ⟨hz.2.1, hz.2.2.1⟩) hR1 hR2, _, upd_upd, (da.put t (.bl true)).congr fun z => ?_⟩
          rw [upto_succ hi']
          constructor
          · rintro (z1 | rfl)
            · exact ⟨.inl z1.1, z1.2⟩
            · exact ⟨.inr rfl, g⟩
          · rintro ⟨z1 | rfl, z2⟩
            · exact .inl ⟨z1, z2⟩
            · exact .inr rfl
        · have g : ¬ Sset F y lo hi t := fun u => g ((ds1.iff t).mpr u)
          refine ⟨acc, rfl, da.congr fun z => ?_⟩
          rw [upto_succ hi']
          constructor
          · rintro ⟨z1, z2⟩
            exact ⟨.inl z1, z2⟩
          · rintro ⟨z1 | rfl, z2⟩
            · exact ⟨z1, z2⟩
            · exact absurd z2 g
      · rintro H' ⟨acc, rfl, da⟩
        have sB0 : Same H (upd H2 p2 (.frz od (.dK kv2))) := s1.trans sB
        refine q _ D acc (sB0.trans (same_new hD)) (sB0.free hD) upd_same (da.congr fun z => ?_)
        rw [upto_all ds2]
        exact ⟨fun ⟨z1, z2⟩ => ⟨z1.1, z1.2.1, z1.2.2, z2.2.2⟩, fun ⟨z1, z2, z3, z4⟩ => ⟨⟨z1, z2, z3⟩, z1, z2, z4⟩⟩
    -- or
    refine ⟨_, rfl, rfl, _, rfl, ite2 (fun c => ?_) (fun c3 => ?_)⟩
    · obtain ⟨x, y, rfl⟩ := kw_either c
      obtain ⟨b1', b2', hF, hx, hy⟩ := (show ∃ b c, H a = some (.tup [.str "or", .ref b, .ref c]) ∧ FAt H x b ∧ FAt H y c from hF)
      obtain ⟨o1, o2⟩ := hok
      have hd : max x.deep y.deep + 1 ≤ n + 1 := hdeep
      refine fun D hD => ?_
      have s0 : Same H (upd H D (.dK [])) := same_new hD
      refine ⟨_, rfl, a, _, 1, .ref b1', rfl, rfl, SqT.of (s0 _ _ hF), atI_nat (j := 1) rfl, _, rfl, _, rfl, _, rfl, b1', fa, x, lo, hi, rfl, hx.same s0, hfa.same s0, o1, by omega, hL0, hH0, fun H1 p1 kv1 s1 np1 hp1 ds1 => ?_⟩
      have hD1 : H1 D = some (.dK []) := s1 _ _ upd_same
      have nD1 : D ≠ p1 := ne_of_none upd_same np1
      refine ⟨p1, kv1, rfl, nD1, hp1, hD1, ?_⟩
      have k1' : Same H (upd H1 D (.dK (mergeK [] kv1))) := fun c o e => by
        rw [upd_ne (ne_of_none e hD)]
        exact s1 _ _ (s0 _ _ e)
      refine ⟨_, rfl, a, _, 2, .ref b2', rfl, rfl, SqT.of (k1' _ _ hF), atI_nat (j := 2) rfl, _, rfl, _, rfl, _, rfl, b2', fa, y, lo, hi, rfl, hy.same k1', hfa.same k1', o2, by omega, hL0, hH0, fun H2 p2 kv2 s2 np2 hp2 ds2 => ?_⟩
      have hD2 : H2 D = some (.dK (mergeK [] kv1)) := s2 _ _ upd_same
      have nD2 : D ≠ p2 := ne_of_none upd_same np2
      have dj := DS.join ds1 ds2
      have l1 := length_mergeK kv1 []
      have a1 := hR1.base
      have a2 := hR2.base
      have l2 := ds1.len (lo := lo) (hi := hi) fun k hk => ⟨hk.1, hk.2.1⟩
      have l3 := ds2.len (lo := lo) (hi := hi) fun k hk => ⟨hk.1, hk.2.1⟩
      rw [List.length_nil] at l1
      refine ⟨p2, kv2, rfl, nD2, hp2, hD2, by rw [sizeLine_eq]; omega, ?_⟩
      refine q _ D _ (fun c o e => ?_) hD upd_same (dj.congr fun z => ?_)
      · rw [upd_ne (ne_of_none e hD)]
        exact s2 _ _ (k1' _ _ e)
      · constructor
        · rintro (⟨z1, z2, z3⟩ | ⟨z1, z2, z3⟩)
          · exact ⟨z1, z2, .inl z3⟩
          · exact ⟨z1, z2, .inr z3⟩
        · rintro ⟨z1, z2, z3 | z3⟩
          · exact .inl ⟨z1, z2, z3⟩
          · exact .inr ⟨z1, z2, z3⟩
    -- not
    refine ⟨_, rfl, rfl, _, rfl, ite2 (fun c => ?_) (fun c4 => ?_)⟩
    · obtain ⟨x, rfl⟩ := kw_no c
      obtain ⟨b, hF, hx⟩ := (show ∃ b, H a = some (.tup [.str "not", .ref b]) ∧ FAt H x b from hF)
      have hd : x.deep + 1 ≤ n + 1 := hdeep
      refine ⟨_, rfl, a, _, 1, .ref b, rfl, rfl, SqT.of hF, atI_nat (j := 1) rfl, _, rfl, _, rfl, _, rfl, b, fa, x, lo, hi, rfl, hx, hfa, hok, by omega, hL0, hH0, fun H1 p1 kv1 s1 np1 hp1 ds1 => ?_⟩
      have a1 := hR1.base
      have a2 := hR2.base
      refine ⟨_, rfl, _, rfl, _, _, rfl, rfl, lo, hi + 1, rfl, ⟨by omega, by omega, by omega, by omega⟩, fun D hD => ?_⟩
      refine dc_range (lo := lo) (n := (hi + 1 - lo).toNat) (fun i H' => ∃ acc, H' = upd H1 D (.dK acc) ∧ DS acc (fun z => lo ≤ z ∧ z < lo + i ∧ z ≤ hi ∧ ¬ holds F x z)) ⟨[], rfl, DS.nil.congr fun z => ⟨False.elim, fun u => absurd u.2.1 (by omega)⟩⟩ ?_ ?_
      · rintro i H' hi' ⟨acc, rfl, da⟩
        refine ⟨rfl, _, rfl, _, rfl, p1, _, rfl, DGet.k (k := Sum.inl (lo + (i : Int))) (same_new hD _ _ hp1), _, rfl, ?_⟩
        cases g : (valV kv1 (Sum.inl (lo + (i : Int)) : Key)).isSome with
        | true =>
          have g := (ds1.iff _).mp g
          refine iteF ⟨acc, rfl, da.congr fun z => ?_⟩
          constructor
          · rintro ⟨z1, z2, z3, z4⟩
            exact ⟨z1, by omega, z3, z4⟩
          · rintro ⟨z1, z2, z3, z4⟩
            by_cases e : z = lo + (i : Int)
            · subst e
              exact absurd g.2.2 z4
            · exact ⟨z1, by omega, z3, z4⟩
        | false =>
          have g : ¬ Sset F x lo hi (lo + (i : Int)) := fun u => by
            rw [(ds1.iff _).mpr u] at g
            cases g
          refine iteT ⟨_, rfl, acc, Sum.inl (lo + (i : Int)), rfl, upd_same, da.small (lo := lo) (hi := hi) (fun z hz => ⟨hz.1, hz.2.2.1⟩) hR1 hR2, _, upd_upd, (da.put _ (.bl true)).congr fun z => ?_⟩
          constructor
          · rintro (⟨z1, z2, z3, z4⟩ | rfl)
            · exact ⟨z1, by omega, z3, z4⟩
            · exact ⟨by omega, by omega, by omega, fun u => g ⟨by omega, by omega, u⟩⟩
          · rintro ⟨z1, z2, z3, z4⟩
            by_cases e : z = lo + (i : Int)
            · exact .inr e
            · exact .inl ⟨z1, by omega, z3, z4⟩
      · rintro H' ⟨acc, rfl, da⟩
        refine q _ D acc (s1.trans (same_new hD)) (s1.free hD) upd_same (da.congr fun z => ?_)
        constructor
        · rintro ⟨z1, z2, z3, z4⟩
          exact ⟨z1, z3, z4⟩
        · rintro ⟨z1, z2, z3⟩
          exact ⟨z1, by omega, z2, z3⟩
    -- first
    refine ⟨_, rfl, rfl, _, rfl, ite2 (fun c => ?_) (fun c5 => ?_)⟩
    · obtain ⟨x, y, rfl⟩ := kw_first c
      exact ⟨_, rfl, _, rfl, _, rfl, _, rfl, a, fa, x, y, lo, hi, rfl, hF, hfa, hok, hdeep, hR1, hR2, q⟩
    -- told
    refine ⟨_, rfl, rfl, _, rfl, ite2 (fun c => ?_) (fun c6 => ?_)⟩
    · obtain ⟨t, rfl⟩ := kw_told c
      have hF : H a = some (.tup [.str "told", .str (nm t)]) := hF
      obtain ⟨l1, l2, hfd, _⟩ := id hfa
      refine ⟨_, rfl, fa, rfl, .inl ⟨_, .inl hfd⟩, _, rfl, a, _, 1, .str (nm t), rfl, rfl, SqT.of hF, atI_nat (j := 1) rfl, Nat.zero_le _, fun p hp => ?_⟩
      obtain ⟨o, l, g, e, hl⟩ := (hfa.same (same_new hp)).get (K := K) upd_same t
      refine ⟨o, g, ?_⟩
      rw [e]
      refine ⟨l, rfl, ⟨_, hl⟩, fun D hD => ?_⟩
      have hlen : ((F t).map V.int).length = (F t).length := List.length_map _
      refine dc_list (K := K) (a := l) (xs := (F t).map V.int) (fun i H' => ∃ acc, H' = upd (upd H p (.lst [])) D (.dK acc) ∧ DS acc (fun z => z ∈ (F t).take i ∧ lo ≤ z ∧ z ≤ hi)) ⟨[], rfl, DS.nil.congr fun z => ⟨False.elim, fun u => absurd u.1 (by simp)⟩⟩ ?_ ?_ ?_
      · rintro i H' ⟨acc, rfl, _⟩
        exact (same_new hD).seq hl
      · rintro i v H' hi' ⟨acc, rfl, da⟩
        rw [List.getElem?_map] at hi'
        obtain ⟨t', ht', rfl⟩ := Option.map_eq_some_iff.mp hi'
        have mem : ∀ z, z ∈ (F t).take (i + 1) ↔ z ∈ (F t).take i ∨ z = t' := fun z => by
          rw [List.take_add_one, ht', List.mem_append]
          simp
        refine ⟨rfl, _, rfl, _, rfl, lo, t', rfl, rfl, _, rfl, ?_⟩
        by_cases g1 : lo ≤ t'
        · rw [decide_eq_true g1]
          refine iteT ⟨_, rfl, t', hi, rfl, rfl, _, rfl, ?_⟩
          by_cases g2 : t' ≤ hi
          · rw [decide_eq_true g2]
            refine iteT ⟨_, rfl, acc, Sum.inl t', rfl, upd_same, da.small (lo := lo) (hi := hi) (fun z hz => hz.2) hR1 hR2, _, upd_upd, (da.put _ (.bl true)).congr fun z => ?_⟩
            rw [mem]
            constructor
            · rintro (⟨z1, z2, z3⟩ | rfl)
              · exact ⟨.inl z1, z2, z3⟩
              · exact ⟨.inr rfl, g1, g2⟩
            · rintro ⟨z1 | rfl, z2, z3⟩
              · exact .inl ⟨z1, z2, z3⟩
              · exact .inr rfl
          · rw [decide_eq_false g2]
            refine iteF ⟨acc, rfl, da.congr fun z => ?_⟩
            rw [mem]
            constructor
            · rintro ⟨z1, z2, z3⟩
              exact ⟨.inl z1, z2, z3⟩
            · rintro ⟨z1 | rfl, z2, z3⟩
              · exact ⟨z1, z2, z3⟩
              · exact absurd z3 g2
        · rw [decide_eq_false g1]
          refine iteF ⟨_, rfl, iteF ⟨acc, rfl, da.congr fun z => ?_⟩⟩
          rw [mem]
          constructor
          · rintro ⟨z1, z2, z3⟩
            exact ⟨.inl z1, z2, z3⟩
          · rintro ⟨z1 | rfl, z2, z3⟩
            · exact ⟨z1, z2, z3⟩
            · exact absurd z2 g1
      · rintro H' ⟨acc, rfl, da⟩
        have s1 : Same H (upd H p (.lst [])) := same_new hp
        refine q _ D acc (s1.trans (same_new hD)) (s1.free hD) upd_same (da.congr fun z => ?_)
        rw [hlen, List.take_length]
        exact ⟨fun ⟨z1, z2, z3⟩ => ⟨z2, z3, z1⟩, fun ⟨z1, z2, z3⟩ => ⟨z3, z1, z2⟩⟩
    -- weekday, date
    have hdp : f.deep = 1 := by
      cases f with
      | wk _ => rfl
      | date _ _ _ => rfl
      | told _ => exact absurd (decide_eq_true rfl) c6
      | shift _ _ => exact absurd (decide_eq_true rfl) c1
      | no _ => exact absurd (decide_eq_true rfl) c4
      | both _ _ => exact absurd (decide_eq_true rfl) c2
      | either _ _ => exact absurd (decide_eq_true rfl) c3
      | first _ _ => exact absurd (decide_eq_true rfl) c5
    have a1 := hR1.base
    have a2 := hR2.base
    refine ⟨_, rfl, _, rfl, _, _, rfl, rfl, lo, hi + 1, rfl, ⟨by omega, by omega, by omega, by omega⟩, fun D hD => ?_⟩
    refine dc_range (lo := lo) (n := (hi + 1 - lo).toNat) (fun i H' => ∃ acc, Same H H' ∧ H' D = some (.dK acc) ∧ DS acc (fun z => lo ≤ z ∧ z < lo + i ∧ z ≤ hi ∧ holds F f z)) ⟨[], same_new hD, upd_same, DS.nil.congr fun z => ⟨False.elim, fun u => absurd u.2.1 (by omega)⟩⟩ ?_ ?_
    · rintro i H' hi' ⟨acc, s1, h1, da⟩
      refine ⟨rfl, _, rfl, _, rfl, _, rfl, a, fa, f, lo + (i : Int), rfl, hF.same s1, hfa.same s1, hok, by omega, ?_, fun H2 s2 => ⟨_, rfl, ?_⟩⟩
      · unfold inR at hR1 hR2 ⊢
        omega
      · have h2 := s2 _ _ h1
        refine ite2 (fun g => ?_) (fun g => ?_)
        · have g := bh_true.mp g
          refine ⟨_, rfl, acc, Sum.inl (lo + (i : Int)), rfl, h2, da.small (lo := lo) (hi := hi) (fun z hz => ⟨hz.1, hz.2.2.1⟩) hR1 hR2, _, fun c o e => ?_, upd_same, (da.put _ (.bl true)).congr fun z => ?_⟩
          · rw [upd_ne (ne_of_none e hD)]
            exact s2 _ _ (s1 _ _ e)
          · constructor
            · rintro (⟨z1, z2, z3, z4⟩ | rfl)
              · exact ⟨z1, by omega, z3, z4⟩
              · exact ⟨by omega, by omega, by omega, g⟩
            · rintro ⟨z1, z2, z3, z4⟩
              by_cases e : z = lo + (i : Int)
              · exact .inr e
              · exact .inl ⟨z1, by omega, z3, z4⟩
        · refine ⟨acc, s1.trans s2, h2, da.congr fun z => ?_⟩
          constructor
          · rintro ⟨z1, z2, z3, z4⟩
            exact ⟨z1, by omega, z3, z4⟩
          · rintro ⟨z1, z2, z3, z4⟩
            by_cases e : z = lo + (i : Int)
            · subst e
              exact absurd (bh_true.mpr z4) g
            · exact ⟨z1, by omega, z3, z4⟩
    · rintro H' ⟨acc, s1, h1, da⟩
      refine q _ D acc s1 hD h1 (da.congr fun z => ?_)
      constructor
      · rintro ⟨z1, z2, z3, z4⟩
        exact ⟨z1, z3, z4⟩
      · rintro ⟨z1, z2, z3⟩
        exact ⟨z1, by omega, z2, z3⟩
end
end Al

set_option Elab.async false
set_option linter.all false
set_option maxRecDepth 100000
set_option maxHeartbeats 4000000
/-! first_days, feast_days. -/
namespace Al
open PySem PySem.Spec PyProof.Rows L2
def optV : Option Int → V
  | none => .non
  | some y => .int y
noncomputable def dayList (F : TN → List Int) (f : Feast) (lo : Int) (n : Nat) : List Int := ((List.range n).map fun i : Nat => lo + (i : Int)).filter fun d => bh F f d
theorem dayList_succ (F : TN → List Int) (f : Feast) (lo : Int) (n : Nat) : dayList F f lo (n + 1) = dayList F f lo n ++ (if bh F f (lo + (n : Int)) = true then [lo + (n : Int)] else []) := by
  unfold dayList
  rw [List.range_succ, List.map_append, List.filter_append]
  congr 1
  rw [List.map_cons, List.map_nil, List.filter_cons]
  rfl
theorem dayList_len (F : TN → List Int) (f : Feast) (lo : Int) (n : Nat) : (dayList F f lo n).length ≤ n := by
  unfold dayList
  refine Nat.le_trans (List.length_filter_le _ _) ?_
  rw [List.length_map, List.length_range]
  exact Nat.le_refl _
def spFeastDays (F : TN → List Int) (n : Nat) : Sp := fun vs H Q _ => ∃ (a fa : Addr) (f : Feast) (lo hi : Int), vs = [.ref a, .ref fa, .int lo, .int hi] ∧ FAt H f a ∧ FactsAt H fa F ∧ f.ok ∧ f.deep ≤ n ∧ inR n lo ∧ inR n hi ∧
  ∀ (H' : Hp) (p : Addr), Same H H' → H' p = some (.lst ((dayList F f lo (hi + 1 - lo).toNat).map V.int)) → Q (.ref p) H'
section
variable {P : Program} {w : World} {K : PySem.W.Frag} {mg : Str → Option Value} {base : Heap} {F : TN → List Int}
theorem ok_firstDays {n : Nat} {f gd : Addr} {fd fdd : FuncData} {tk : Tok} (FF : Fun K "first_days" "first_days" sFirstDays f fd)
    (Gd : FnOk P w K mg base CX0 (9 + 2 * n) gd fdd ["feast", "facts", "first", "last"] (spDaysOf F n)) (bd : Binds K fdd ["feast", "facts", "first", "last"] []) (kd : PySem.W.keepIn K (.ref gd) = true) (md : mg "days_of" = some (.ref gd))
    (mr : mg "range" = none) (mF : mg "FARTHEST" = some (.int 400 tk)) :
    FnOk P w K mg base CX0 (9 + 2 * n + 1) f fd ["feast", "facts", "first", "last"] (spFirstDays F (n + 1)) := by
  refine FF.ok scFirstDays (fun vs H Q E h => ?_) (fun cdv A outer s H vs Q E hr h => ?_)
  · obtain ⟨a, fa, x, y, lo, hi, rfl, _⟩ := h
    rfl
  · obtain ⟨a, fa, x, y, lo, hi, rfl, hF, hfa, ⟨o1, o2⟩, hdeep, hR1, hR2, q⟩ := h
    have hu := hu_of hr
    obtain ⟨b, c, hF, hx, hy⟩ := (show ∃ b c, H a = some (.tup [.str "first", .ref b, .ref c]) ∧ FAt H x b ∧ FAt H y c from hF)
    have hd : max x.deep y.deep + 1 ≤ n + 1 := hdeep
    have gF : ∀ {X : Cx} {pos : Pos} (h1 : Gl X "FARTHEST") (h2 : X.mg "FARTHEST" = some (.int 400 tk)), PE X (.Name "FARTHEST" pos) (tC (.int 400)) := fun h1 h2 => pe_glob (v := .int 400) h1 h2 ⟨_, rfl⟩
    refine ⟨_, pss_cons (ps_asg (pv 0) (pg_tup rfl (pgs_cons (pg_name (i := 4) scFirstDays.nd rfl (.inl rfl)) (pgs_cons (pg_name (i := 5) scFirstDays.nd rfl (.inl rfl)) (pgs_cons (pg_name (i := 6) scFirstDays.nd rfl (.inl rfl)) pgs_nil)))))
      (pss_cons (ps_set (i := 7) scFirstDays.nd rfl (.inl rfl) (pe_op op_sub (pv 2) (gF (by rfl) mF)))
      (pss_cons (ps_set (i := 8) scFirstDays.nd rfl (.inl rfl) (pe_call Gd hr (by rfl) md kd bd .nil pass0 (pa_cons (pv 5) (pa_cons (pv 1) (pa_cons (pv 7) (pa_cons (pv 3) pa_nil))))))
      (pss_cons (ps_set (i := 9) scFirstDays.nd rfl (.inl rfl) (pe_call Gd hr (by rfl) md kd bd .nil pass0 (pa_cons (pv 6) (pa_cons (pv 1) (pa_cons (pv 7) (pa_cons (pv 3) pa_nil))))))
      (pss_cons (ps_set (i := 10) scFirstDays.nd rfl (.inl rfl) pe_dnewK)
      (pss_cons (ps_set (i := 11) scFirstDays.nd rfl (.inl rfl) pe_non)
      (pss_cons (ps_for PassesOwn.never rfl (pi_range2 (by rfl) mr (pa_cons (pv 7) (pa_cons (pe_op op_add (pv 3) pe_int) pa_nil))) (pg_name (i := 12) scFirstDays.nd rfl (.inl rfl))
        (pss_cons (ps_if (pt_cmp (pc_din hu (pv 12) (pv 9))) (pss_one (ps_set (i := 11) scFirstDays.nd rfl (.inl rfl) (pv 12))) pss_nil)
        (pss_one (ps_if (pt_cmp (pc_din hu (pv 12) (pv 8)))
          (pss_cons (ps_if (PW.pt (pw_and (pt_cmp (pc_notN (pv 11))) (pw_and (pt_cmpR op_le (pe_op op_sub (pv 12) (pv 11)) (gF (by rfl) mF) (nomark _)) (pw_and1 (pt_cmpR op_ge (pv 12) (pv 2) (nomark _))))))
            (pss_one (ps_dput hu (pv 10) (pv 12) pe_bl rfl)) pss_nil)
          (pss_one (ps_set (i := 11) scFirstDays.nd rfl (.inl rfl) pe_non))) pss_nil))))
      (pss_one (ps_ret (pv 10))))))))), ?_⟩
    refine ⟨_, rfl, a, _, rfl, SqT.of hF, rfl, _, _, rfl, _, _, rfl, _, _, rfl, rfl, ?_⟩
    have hE : inR n (lo - 400) := hR1.sub (by omega) (by omega)
    have hH0 : inR n hi := hR2.sub (by omega) (by omega)
    have a1 := hR1.base
    have a2 := hR2.base
    refine ⟨_, rfl, _, _, rfl, rfl, ?_⟩
    refine ⟨_, rfl, _, rfl, _, rfl, _, rfl, b, fa, x, lo - 400, hi, rfl, hx, hfa, o1, by omega, hE, hH0, fun H1 p1 kv1 s1 np1 hp1 ds1 => ?_⟩
    refine ⟨_, rfl, _, rfl, _, rfl, _, rfl, c, fa, y, lo - 400, hi, rfl, hy.same s1, hfa.same s1, o2, by omega, hE, hH0, fun H2 p2 kv2 s2 np2 hp2 ds2 => ?_⟩
    intro D hD
    have h1D : ∀ acc, upd H2 D (.dK acc) p1 = some (.dK kv1) := fun acc => by
      rw [upd_ne (ne_of_none (s2 _ _ hp1) hD)]
      exact s2 _ _ hp1
    have h2D : ∀ acc, upd H2 D (.dK acc) p2 = some (.dK kv2) := fun acc => by
      rw [upd_ne (ne_of_none hp2 hD)]
      exact hp2
    refine ⟨_, rfl, _, rfl, _, _, rfl, rfl, lo - 400, hi + 1, rfl, ⟨by omega, by omega, by omega, by omega⟩, ?_⟩
    refine for_range (lo := lo - 400) (n := (hi + 1 - (lo - 400)).toNat) (fun i σ H' => ∃ acc l o, σ = [some (.ref a), some (.ref fa), some (.int lo), some (.int hi), some (.str "first"), some (.ref b), some (.ref c), some (.int (lo - 400)), some (.ref p1), some (.ref p2), some (.ref D), some (optV l), o] ∧
        H' = upd H2 D (.dK acc) ∧ DS acc (fun z => lo ≤ z ∧ z < lo - 400 + i ∧ z ≤ hi ∧ holds F (.first x y) z) ∧ Lat F x y (lo - 400) (lo - 400 + i) (lo - 400 + i) l)
      ⟨[], none, none, rfl, rfl, DS.nil.congr fun z => ⟨False.elim, fun u => absurd u.2.1 (by omega)⟩, ?_⟩ ?_ ?_
    · have e : lo - 400 + ((0 : Nat) : Int) = lo - 400 := by omega
      rw [e]
      exact lat_zero
    · rintro i σ H' hi' ⟨acc, l, o, rfl, rfl, da, hlat⟩
      have eS : lo - 400 + ((i + 1 : Nat) : Int) = lo - 400 + (i : Int) + 1 := by omega
      -- the second half of a turn
      have step : ∀ l' : Option Int, Lat F x y (lo - 400) (lo - 400 + (i : Int) + 1) (lo - 400 + (i : Int)) l' →
          (tIfS (tB (tDIn (tVar 12) (tVar 8))) (tSeq (tIfS (tAnd (tB (tNotN (tVar 11))) (tAnd (tTest (tOp (rI0 fun i j => .bl (decide (i ≤ j))) (tOp (rI0 fun i j => .int (i - j)) (tVar 12) (tVar 11)) (tC (.int 400)))) (tTest (tOp (rI0 fun i j => .bl (decide (j ≤ i))) (tVar 12) (tVar 2)))))
              (sDPut (tVar 10) (tVar 12) (tC (.bl true))) tNext) (tAsg (tC .non) (gName 11))) tNext : TS)
            { nx := fun σ H' => ∃ acc l o, σ = [some (.ref a), some (.ref fa), some (.int lo), some (.int hi), some (.str "first"), some (.ref b), some (.ref c), some (.int (lo - 400)), some (.ref p1), some (.ref p2), some (.ref D), some (optV l), o] ∧
                H' = upd H2 D (.dK acc) ∧ DS acc (fun z => lo ≤ z ∧ z < lo - 400 + ((i + 1 : Nat) : Int) ∧ z ≤ hi ∧ holds F (.first x y) z) ∧ Lat F x y (lo - 400) (lo - 400 + ((i + 1 : Nat) : Int)) (lo - 400 + ((i + 1 : Nat) : Int)) l, rt := Q }
            [some (.ref a), some (.ref fa), some (.int lo), some (.int hi), some (.str "first"), some (.ref b), some (.ref c), some (.int (lo - 400)), some (.ref p1), some (.ref p2), some (.ref D), some (optV l'), some (.int (lo - 400 + (i : Int)))] (upd H2 D (.dK acc)) := fun l' hl' => by
        have stay : ¬ (lo ≤ lo - 400 + (i : Int) ∧ holds F (.first x y) (lo - 400 + (i : Int))) → DS acc (fun z => lo ≤ z ∧ z < lo - 400 + ((i + 1 : Nat) : Int) ∧ z ≤ hi ∧ holds F (.first x y) z) := fun no => da.congr fun z => by
          constructor
          · rintro ⟨z1, z2, z3, z4⟩
            exact ⟨z1, by omega, z3, z4⟩
          · rintro ⟨z1, z2, z3, z4⟩
            by_cases e : z = lo - 400 + (i : Int)
            · subst e
              exact absurd ⟨z1, z4⟩ no
            · exact ⟨z1, by omega, z3, z4⟩
        refine ⟨_, rfl, _, rfl, p1, _, rfl, DGet.k (k := Sum.inl (lo - 400 + (i : Int))) (h1D acc), _, rfl, ite2 (fun g => ?_) (fun g => ?_)⟩
        · have g := ((ds1.iff _).mp g).2.2
          have lN : Lat F x y (lo - 400) (lo - 400 + ((i + 1 : Nat) : Int)) (lo - 400 + ((i + 1 : Nat) : Int)) none := by
            rw [eS]
            exact lat_goal hl' g
          cases l' with
          | none =>
            refine ⟨_, rfl, false, rfl, iteF ?_⟩
            refine iteF ?_
            refine ⟨acc, none, _, rfl, rfl, stay fun ⟨z1, z2⟩ => ?_, lN⟩
            obtain ⟨y', e, _⟩ := (lat_first hl' g (by omega)).mp z2
            cases e
          | some yy =>
            refine ⟨_, rfl, true, rfl, iteT ?_⟩
            refine ⟨_, rfl, _, rfl, _, _, rfl, rfl, _, _, rfl, rfl, _, rfl, ite2 (fun g2 => ?_) (fun g2 => ?_)⟩
            · have g2 : lo - 400 + (i : Int) - yy ≤ 400 := of_decide_eq_true g2
              refine ⟨_, rfl, _, rfl, _, _, rfl, rfl, _, rfl, ite2 (fun g3 => ?_) (fun g3 => ?_)⟩
              · have g3 : lo ≤ lo - 400 + (i : Int) := of_decide_eq_true g3
                have g4 : holds F (.first x y) (lo - 400 + (i : Int)) := (lat_first hl' g (by omega)).mpr ⟨yy, rfl, g2⟩
                refine ⟨_, rfl, _, rfl, D, _, rfl, DPut.k (k := Sum.inl (lo - 400 + (i : Int))) upd_same (da.small (lo := lo) (hi := hi) (fun z hz => ⟨hz.1, hz.2.2.1⟩) hR1 hR2), ?_⟩
                refine ⟨_, none, _, rfl, upd_upd, (da.put _ (.bl true)).congr fun z => ?_, lN⟩
                constructor
                · rintro (⟨z1, z2, z3, z4⟩ | rfl)
                  · exact ⟨z1, by omega, z3, z4⟩
                  · exact ⟨g3, by omega, by omega, g4⟩
                · rintro ⟨z1, z2, z3, z4⟩
                  by_cases e : z = lo - 400 + (i : Int)
                  · exact .inr e
                  · exact .inl ⟨z1, by omega, z3, z4⟩
              · have g3 : ¬ lo ≤ lo - 400 + (i : Int) := of_decide_eq_false (Bool.eq_false_iff.mpr g3)
                exact ⟨acc, none, _, rfl, rfl, stay fun ⟨z1, z2⟩ => g3 z1, lN⟩
            · have g2 : ¬ lo - 400 + (i : Int) - yy ≤ 400 := of_decide_eq_false (Bool.eq_false_iff.mpr g2)
              refine iteF ?_
              refine ⟨acc, none, _, rfl, rfl, stay fun ⟨z1, z2⟩ => ?_, lN⟩
              obtain ⟨y', e, h4⟩ := (lat_first hl' g (by omega)).mp z2
              cases e
              exact g2 h4
        · have g : ¬ holds F x (lo - 400 + (i : Int)) := fun u => g ((ds1.iff _).mpr ⟨by omega, by omega, u⟩)
          refine ⟨acc, l', _, rfl, rfl, stay fun ⟨z1, z2⟩ => g z2.1, ?_⟩
          rw [eS]
          exact lat_nogoal hl' g
      refine ⟨_, rfl, _, rfl, p2, _, rfl, DGet.k (k := Sum.inl (lo - 400 + (i : Int))) (h2D acc), _, rfl, ite2 (fun g => ?_) (fun g => ?_)⟩
      · have g := ((ds2.iff _).mp g).2.2
        refine ⟨_, rfl, ?_⟩
        exact step (some (lo - 400 + (i : Int))) (lat_start (by omega) hlat g)
      · have g : ¬ holds F y (lo - 400 + (i : Int)) := fun u => g ((ds2.iff _).mpr ⟨by omega, by omega, u⟩)
        exact step l (lat_nostart hlat g)
    · rintro σ H' ⟨acc, l, o, rfl, rfl, da, _⟩
      have s12 : Same H H2 := s1.trans s2
      refine ⟨_, rfl, ?_⟩
      refine q _ D acc (s12.trans (same_new hD)) (s12.free hD) upd_same (da.congr fun z => ?_)
      constructor
      · rintro ⟨z1, z2, z3, z4⟩
        exact ⟨z1, z3, z4⟩
      · rintro ⟨z1, z2, z3⟩
        exact ⟨z1, by omega, z2, z3⟩
theorem ok_feastDays {n : Nat} {f gd : Addr} {fd fdd : FuncData} (FF : Fun K "feast_days" "feast_days" sFeastDays f fd)
    (Gd : FnOk P w K mg base CX0 (9 + 2 * n) gd fdd ["feast", "facts", "first", "last"] (spDaysOf F n)) (bd : Binds K fdd ["feast", "facts", "first", "last"] []) (kd : PySem.W.keepIn K (.ref gd) = true) (md : mg "days_of" = some (.ref gd))
    (mr : mg "range" = none) :
    FnOk P w K mg base CX0 (9 + 2 * n + 1) f fd ["feast", "facts", "first", "last"] (spFeastDays F n) := by
  refine FF.ok scFeastDays (fun vs H Q E h => ?_) (fun cdv A outer s H vs Q E hr h => ?_)
  · obtain ⟨a, fa, f, lo, hi, rfl, _⟩ := h
    rfl
  · obtain ⟨a, fa, f, lo, hi, rfl, hF, hfa, hok, hdeep, hR1, hR2, q⟩ := h
    have hu := hu_of hr
    refine ⟨_, pss_cons (ps_set (i := 4) scFeastDays.nd rfl (.inr rfl) (pe_call Gd hr (by rfl) md kd bd .nil pass0 (pa_cons (pv 0) (pa_cons (pv 1) (pa_cons (pv 2) (pa_cons (pv 3) pa_nil))))))
      (pss_one (ps_ret (pe_lc (own := [("day", 5)]) (g := gName 5) rfl scFeastDays.nd (pi_range2 (by rfl) mr (pa_cons (pv 2) (pa_cons (pe_op op_add (pv 3) pe_int) pa_nil)))
        (blkOk_by (own := [("day", 5)]) (N := nFeastDays) (sc := defScope sFeastDays) (by decide +kernel))
        (fun _ _ _ _ _ => pg_name (i := 5) scFeastDays.nd rfl (.inl rfl)) (fun _ _ _ _ _ => pts_one (pt_cmp (pc_din hu (pv 5) (pv 4)))) (fun _ _ _ _ _ => pv 5)))), ?_⟩
    have a1 := hR1.base
    have a2 := hR2.base
    refine ⟨_, rfl, _, rfl, _, rfl, _, rfl, a, fa, f, lo, hi, rfl, hF, hfa, hok, hdeep, hR1, hR2, fun H1 p1 kv1 s1 np1 hp1 ds1 => ?_⟩
    refine ⟨_, rfl, _, rfl, _, _, rfl, rfl, lo, hi + 1, rfl, ⟨by omega, by omega, by omega, by omega⟩, fun D hD => ?_⟩
    refine lc_range (lo := lo) (n := (hi + 1 - lo).toNat) (fun i H' => H' = upd H1 D (.lst ((dayList F f lo i).map V.int))) rfl ?_ ?_
    · rintro i H' hi' rfl
      refine ⟨rfl, _, rfl, _, rfl, p1, _, rfl, DGet.k (k := Sum.inl (lo + (i : Int))) (same_new hD _ _ hp1), _, rfl, ite2 (fun g => ?_) (fun g => ?_)⟩
      · have g := ((ds1.iff _).mp g).2.2
        refine ⟨_, rfl, _, upd_same, ?_, ?_⟩
        · have e := dayList_len F f lo i
          rw [List.length_map, sizeLine_eq]
          omega
        · rw [upd_upd, dayList_succ, if_pos (bh_true.mpr g), List.map_append]
          rfl
      · have g : ¬ holds F f (lo + (i : Int)) := fun u => g ((ds1.iff _).mpr ⟨by omega, by omega, u⟩)
        rw [dayList_succ, if_neg fun z => g (bh_true.mp z), List.append_nil]
    · rintro H' rfl
      exact q _ D (s1.trans (same_new hD)) upd_same
end
end Al

set_option Elab.async false
set_option linter.all false
set_option maxRecDepth 100000
set_option maxHeartbeats 4000000
/-! The law's draws. -/
namespace Al
open PySem PySem.Spec PyProof.Rows L2
abbrev sStart : Stmt := top 18
abbrev sDraw : Stmt := top 19
abbrev sPick : Stmt := top 20
abbrev sIs : Stmt := top 22
abbrev sFeast : Stmt := top 30
abbrev nStart : List Str := ["_law_script", "_law_cell"]
theorem scStart : FnScope nStart ["_law_script"] (defScope sStart) := ⟨rfl, rfl, rfl, by decide +kernel, rfl, by decide +kernel, by decide +kernel⟩
abbrev nDraw : List Str := ["_law_state", "_law_bound", "_law_cell", "_law_number"]
theorem scDraw : FnScope nDraw ["_law_state", "_law_bound"] (defScope sDraw) := ⟨rfl, rfl, rfl, by decide +kernel, rfl, by decide +kernel, by decide +kernel⟩
theorem scPick : FnScope ["_law_state", "_law_things"] ["_law_state", "_law_things"] (defScope sPick) := ⟨rfl, rfl, rfl, by decide +kernel, rfl, by decide +kernel, by decide +kernel⟩
theorem scIs : FnScope ["_law_actual", "_law_due"] ["_law_actual", "_law_due"] (defScope sIs) := ⟨rfl, rfl, rfl, by decide +kernel, rfl, by decide +kernel, by decide +kernel⟩
theorem scFeast : FnScope ["_law_state", "_law_deep", "_law_kind", "_law_month", "_law_word"] ["_law_state", "_law_deep"] (defScope sFeast) := ⟨rfl, rfl, rfl, by decide +kernel, rfl, by decide +kernel, by decide +kernel⟩
/-! ### the state -/
def stv (l : Addr) (a b c : Int) : List (Key × V) := [(Sum.inr "cells", .ref l), (Sum.inr "at", .int a), (Sum.inr "left", .int b), (Sum.inr "mix", .int c)]
def StAt (H : Hp) (st : Addr) : Prop := ∃ (l : Addr) (ns : List Int) (a b c : Int), H st = some (.dK (stv l a b c)) ∧ H l = some (.lst (ns.map V.int)) ∧ 0 ≤ a
theorem kne {a b : Str} (h : a ≠ b) : ¬ (Sum.inr a : Key) = Sum.inr b := fun z => h (Sum.inr.inj z)
theorem e_ca : ("cells" : Str) ≠ "at" := by decide +kernel
theorem e_cl : ("cells" : Str) ≠ "left" := by decide +kernel
theorem e_cm : ("cells" : Str) ≠ "mix" := by decide +kernel
theorem e_al : ("at" : Str) ≠ "left" := by decide +kernel
theorem e_am : ("at" : Str) ≠ "mix" := by decide +kernel
theorem e_lm : ("left" : Str) ≠ "mix" := by decide +kernel
section
variable {l : Addr} {a b c x : Int}
theorem stv_cells : valV (stv l a b c) (Sum.inr "cells" : Key) = some (.ref l) := valV_pos rfl
theorem stv_at : valV (stv l a b c) (Sum.inr "at" : Key) = some (.int a) := (valV_neg (kne e_ca)).trans (valV_pos rfl)
theorem stv_left : valV (stv l a b c) (Sum.inr "left" : Key) = some (.int b) := (valV_neg (kne e_cl)).trans ((valV_neg (kne e_al)).trans (valV_pos rfl))
theorem stv_mix : valV (stv l a b c) (Sum.inr "mix" : Key) = some (.int c) := (valV_neg (kne e_cm)).trans ((valV_neg (kne e_am)).trans ((valV_neg (kne e_lm)).trans (valV_pos rfl)))
theorem putK_some {κ : Type} [DecidableEq κ] {kvs : List (κ × V)} {k : κ} {v w : V} (h : valV kvs k = some w) : putK kvs k v = kvs.map fun kv => if kv.1 = k then (kv.1, v) else kv := by
  unfold putK
  rw [valV_any, h]
  rfl
theorem put_at : putK (stv l a b c) (Sum.inr "at" : Key) (.int x) = stv l x b c := by
  rw [putK_some stv_at]
  unfold stv
  simp only [List.map_cons, List.map_nil]
  rw [if_neg (kne e_ca), if_pos True.intro, if_neg (kne e_al.symm), if_neg (kne e_am.symm)]
theorem put_left : putK (stv l a b c) (Sum.inr "left" : Key) (.int x) = stv l a x c := by
  rw [putK_some stv_left]
  unfold stv
  simp only [List.map_cons, List.map_nil]
  rw [if_neg (kne e_cl), if_neg (kne e_al), if_pos True.intro, if_neg (kne e_lm.symm)]
theorem put_mix : putK (stv l a b c) (Sum.inr "mix" : Key) (.int x) = stv l a b x := by
  rw [putK_some stv_mix]
  unfold stv
  simp only [List.map_cons, List.map_nil]
  rw [if_neg (kne e_cm), if_neg (kne e_am), if_neg (kne e_lm), if_pos True.intro]
variable {H : Hp} {st : Addr}
theorem dg_cells (h : H st = some (.dK (stv l a b c))) : DGet H st (.str "cells") (some (.ref l)) := by
  have g := DGet.k (k := Sum.inr "cells") h
  rw [stv_cells] at g
  exact g
theorem dg_at (h : H st = some (.dK (stv l a b c))) : DGet H st (.str "at") (some (.int a)) := by
  have g := DGet.k (k := Sum.inr "at") h
  rw [stv_at] at g
  exact g
theorem dg_left (h : H st = some (.dK (stv l a b c))) : DGet H st (.str "left") (some (.int b)) := by
  have g := DGet.k (k := Sum.inr "left") h
  rw [stv_left] at g
  exact g
theorem dg_mix (h : H st = some (.dK (stv l a b c))) : DGet H st (.str "mix") (some (.int c)) := by
  have g := DGet.k (k := Sum.inr "mix") h
  rw [stv_mix] at g
  exact g
theorem four : (stv l a b c).length < sizeLine := by show 4 < sizeLine; decide
theorem dp_at (h : H st = some (.dK (stv l a b c))) : DPut H st (.str "at") (.int x) (upd H st (.dK (stv l x b c))) := by
  have g := DPut.k (k := Sum.inr "at") (v := .int x) h four
  rw [put_at] at g
  exact g
theorem dp_left (h : H st = some (.dK (stv l a b c))) : DPut H st (.str "left") (.int x) (upd H st (.dK (stv l a x c))) := by
  have g := DPut.k (k := Sum.inr "left") (v := .int x) h four
  rw [put_left] at g
  exact g
theorem dp_mix (h : H st = some (.dK (stv l a b c))) : DPut H st (.str "mix") (.int x) (upd H st (.dK (stv l a b x))) := by
  have g := DPut.k (k := Sum.inr "mix") (v := .int x) h four
  rw [put_mix] at g
  exact g
end
theorem mergeK_fresh : ∀ (more kvs : List (Key × V)), ((kvs ++ more).map (·.1)).Nodup → mergeK kvs more = kvs ++ more
  | [], kvs, _ => by rw [List.append_nil]; rfl
  | p :: r, kvs, h => by
    have hv : valV kvs p.1 = none := by
      cases e : valV kvs p.1 with
      | none => rfl
      | some v =>
        have m := valV_in e
        rw [List.map_append, List.nodup_append] at h
        exact absurd rfl (h.2.2 p.1 m p.1 (by simp))
    show mergeK (putK kvs p.1 p.2) r = _
    rw [putK_new p.2 hv, mergeK_fresh r _ (by simpa using h)]
    simp
/-! ### promises -/
def spStart (K : PySem.W.Frag) : Sp := fun vs H Q _ => ∃ (a : Addr) (ns : List Int), vs = [.ref a] ∧ SqL K H a (ns.map V.int) ∧ ns.length ≤ 63 ∧ ∀ (H' : Hp) (st : Addr), Same H H' → StAt H' st → H st = none → Q (.ref st) H'
def spDraw : Sp := fun vs H Q _ => ∃ (st : Addr) (m : Int), vs = [.ref st, .int m] ∧ StAt H st ∧ 0 < m ∧ m < 1073741824 ∧ ∀ (H' : Hp) (z : Int), Kp st H H' → StAt H' st → 0 ≤ z → z < m → Q (.int z) H'
def spPick : Sp := fun vs H Q _ => ∃ (st l : Addr) (xs : List V), vs = [.ref st, .ref l] ∧ StAt H st ∧ H l = some (.lst xs) ∧ 0 < xs.length ∧ xs.length ≤ 1000 ∧ ∀ (H' : Hp) (x : V), Kp st H H' → StAt H' st → x ∈ xs → Q x H'
def spIs : Sp := fun vs H Q _ => ∃ x y : Bool, vs = [.bl x, .bl y] ∧ Q (.bl (decide (x = y))) H
def spFeast (n : Nat) : Sp := fun vs H Q _ => ∃ (st : Addr) (k : Nat), vs = [.ref st, .int k] ∧ StAt H st ∧ k + 1 ≤ n ∧ ∀ (H' : Hp) (a : Addr) (f : Feast), Kp st H H' → StAt H' st → FAt H' f a → f.ok → f.deep ≤ k + 1 → Q (.ref a) H'
section
variable {P : Program} {w : World} {K : PySem.W.Frag} {mg : Str → Option Value} {base : Heap}
theorem ok_start {f : Addr} {fd : FuncData} (FF : Fun K "_law_start" "_law_start" sStart f fd) (ma : mg "abs" = none) (mi : mg "int" = none) (ml : mg "len" = none) : FnOk P w K mg base CX0 1 f fd ["_law_script"] (spStart K) := by
  refine FF.ok scStart (fun vs H Q E h => ?_) (fun cdv A outer s H vs Q E hr h => ?_)
  · obtain ⟨a, ns, rfl, _⟩ := h
    rfl
  · obtain ⟨a, ns, rfl, hS, hlen, q⟩ := h
    refine ⟨_, pss_one (ps_ret (pe_disp (pps_cons pe_str (pe_lc (own := [("_law_cell", 1)]) (g := gName 1) (tt := tYes) rfl scStart.nd (pi_list (pv 0)) (blkOk_by (own := [("_law_cell", 1)]) (N := nStart) (sc := defScope sStart) (by decide +kernel))
          (fun _ _ _ _ _ => pg_name (i := 1) scStart.nd rfl (.inl rfl)) (fun _ _ _ _ _ => pts_nil) (fun _ _ _ _ _ => pe_callB call_abs (by rfl) ma (by decide +kernel) (pa_cons (pe_callTy call_int1 (by rfl) mi (by decide +kernel) (pa_cons (pv 1) pa_nil)) pa_nil)))
        (pps_cons pe_str pe_int (pps_cons pe_str pe_int (pps_cons pe_str (pe_op op_add pe_int (pe_callB call_len_seq (by rfl) ml PySem.boot_len (pa_cons (pv 0) pa_nil))) pps_nil))))
        (by rfl) (by rfl) (fun z => by cases z) (by decide))), ?_⟩
    intro st hst
    have s0 : Same H (upd H st (.dK [])) := same_new hst
    refine ⟨_, rfl, a, rfl, ⟨_, s0.seq hS⟩, fun D hD => ?_⟩
    refine lc_list (K := K) (a := a) (xs := ns.map V.int) (fun i H' => ∃ ms : List Int, ms.length ≤ i ∧ H' = upd (upd H st (.dK [])) D (.lst (ms.map V.int))) ⟨[], Nat.le_refl _, rfl⟩ ?_ ?_ ?_
    · rintro i H' _ ⟨ms, _, rfl⟩
      exact (same_new hD).seq (s0.seq hS)
    · rintro i x H' hx ⟨ms, hm, rfl⟩
      have hi := (List.getElem?_eq_some_iff.mp hx).1
      rw [List.length_map] at hi
      rw [List.getElem?_map] at hx
      obtain ⟨z, hz, rfl⟩ := Option.map_eq_some_iff.mp hx
      refine ⟨rfl, ?_⟩
      simp only [tYes, if_true]
      refine ⟨_, rfl, .inl ⟨_, rfl, _, rfl, _, upd_same, ?_, ms ++ [if z < 0 then -z else z], ?_, ?_⟩⟩
      · rw [List.length_map, sizeLine_eq]
        omega
      · rw [List.length_append, List.length_singleton]
        omega
      · rw [upd_upd, List.map_append]
        rfl
    · rintro H' ⟨ms, hm, rfl⟩
      refine ⟨_, rfl, a, _, rfl, .inl ((same_new hD).seq (s0.seq hS)), _, _, rfl, rfl, ?_⟩
      have nst : st ≠ D := ne_of_none upd_same hD
      refine ⟨by rw [upd_ne nst, upd_same], stv D 0 0 (7 + ((ns.map V.int).length : Nat)), rfl, (by show 4 ≤ 15; decide), ?_⟩
      have nd4 : ([Sum.inr "cells", Sum.inr "at", Sum.inr "left", Sum.inr "mix"] : List Key).Nodup := by decide +kernel
      rw [mergeK_fresh (stv D 0 0 (7 + ((ns.map V.int).length : Nat))) [] nd4]
      refine q _ st (fun c o e => ?_) ⟨D, ms, 0, 0, _, upd_same, ?_, Int.le_refl 0⟩ hst
      · rw [upd_ne (ne_of_none e hst)]
        exact same_new hD _ _ (s0 _ _ e)
      · rw [upd_ne nst.symm, upd_same]
end
end Al

set_option Elab.async false
set_option linter.all false
set_option maxRecDepth 100000
set_option maxHeartbeats 4000000
/-! The law's draws, walked. -/
namespace Al
open PySem PySem.Spec PyProof.Rows L2
theorem StAt.same {H H' : Hp} {st : Addr} (h : StAt H st) (k : Same H H') : StAt H' st := by
  obtain ⟨l, ns, a, b, c, h1, h2, h3⟩ := h
  exact ⟨l, ns, a, b, c, k _ _ h1, k _ _ h2, h3⟩
theorem StAt.dk {H : Hp} {st : Addr} (h : StAt H st) : ∃ kvs, H st = some (.dK kvs) := by
  obtain ⟨l, ns, a, b, c, h1, h2, h3⟩ := h
  exact ⟨_, h1⟩
theorem FAt.kp {H H' : Hp} {st a : Addr} {f : Feast} (h : FAt H f a) (hs : StAt H st) (k : Kp st H H') : FAt H' f a := by
  obtain ⟨kvs, e⟩ := hs.dk
  exact h.mono fun b xs x => k b _ (ne_of x e (by intro z; cases z)) x
section
variable {P : Program} {w : World} {K : PySem.W.Frag} {mg : Str → Option Value} {base : Heap}
theorem ok_draw {f : Addr} {fd : FuncData} (FF : Fun K "_law_draw" "_law_draw" sDraw f fd) (mi : mg "int" = none) (ml : mg "len" = none) : FnOk P w K mg base CX0 1 f fd ["_law_state", "_law_bound"] spDraw := by
  refine FF.ok scDraw (fun vs H Q E h => ?_) (fun cdv A outer s H vs Q E hr h => ?_)
  · obtain ⟨st, m, rfl, _⟩ := h
    rfl
  · obtain ⟨st, m, rfl, hst, m0, m1, q⟩ := h
    have hu := hu_of hr
    -- behind the first if
    obtain ⟨tt, htl, rd⟩ : ∃ t, PSs (cxOf CX0 P w K mg base nDraw "_law_draw" (defScope sDraw) f cdv A outer s H E).nox ((defBody sDraw).drop 1) t ∧
        ∀ (l : Addr) (ns : List Int) (a b c : Int) (H' : Hp) (o : Option V), H' st = some (.dK (stv l a b c)) → H' l = some (.lst (ns.map V.int)) → 0 ≤ a → Kp st H H' →
          t { nx := fun _ H' => Q .non H', rt := Q } [some (.ref st), some (.int m), o, none] H' := by
      refine ⟨_, pss_cons (ps_if (pt_cmpR op_gt (pe_dget hu (pv 0) pe_str (fun _ _ => rfl)) pe_int (nomark _))
          (pss_cons (ps_set (i := 3) scDraw.nd rfl (.inl rfl) (pe_op op_mod (pe_callTy call_int1 (by rfl) mi (by decide +kernel) (pa_cons (pe_dget hu (pv 0) pe_str (fun _ _ => rfl)) pa_nil)) (pv 1)))
          (pss_cons (ps_dput hu (pv 0) pe_str (pe_op op_fdiv (pe_dget hu (pv 0) pe_str (fun _ _ => rfl)) (pv 1)) rfl)
          (pss_one (ps_ret (pv 3))))) pss_nil)
        (pss_cons (ps_dput hu (pv 0) pe_str (pe_op op_mod (pe_callTy call_int1 (by rfl) mi (by decide +kernel) (pa_cons (pe_op op_add (pe_op op_mul (pe_dget hu (pv 0) pe_str (fun _ _ => rfl)) pe_int) pe_int) pa_nil)) pe_int) rfl)
        (pss_one (ps_ret (pe_op op_mod (pe_callTy call_int1 (by rfl) mi (by decide +kernel) (pa_cons (pe_op op_mod (pe_callTy call_int1 (by rfl) mi (by decide +kernel) (pa_cons (pe_op op_add (pe_op op_mul (pe_dget hu (pv 0) pe_str (fun _ _ => rfl)) pe_int) pe_int) pa_nil)) pe_int) pa_nil)) (pv 1))))), ?_⟩
      intro l ns a b c H' o h1 h2 h3 hk
      have nl : l ≠ st := ne_of h2 h1 (by intro z; cases z)
      refine ⟨_, rfl, st, _, rfl, dg_left h1, _, _, rfl, rfl, _, rfl, ite2 (fun g => ?_) (fun g => ?_)⟩
      · refine ⟨_, rfl, st, _, rfl, dg_left h1, .inl ⟨_, rfl, _, rfl, _, _, rfl, rfl, m0, ?_⟩⟩
        refine ⟨_, rfl, st, _, rfl, dg_left h1, _, rfl, _, _, rfl, rfl, ⟨m0, m1⟩, _, rfl, st, _, rfl, dp_left h1, _, rfl, ?_⟩
        exact q _ _ (hk.trans kp_upd) ⟨l, ns, _, _, _, upd_same, by rw [upd_ne nl]; exact h2, h3⟩ (Int.emod_nonneg _ (by omega)) (Int.emod_lt_of_pos _ m0)
      · refine ⟨_, rfl, st, _, rfl, dg_mix h1, _, _, rfl, rfl, .inr ⟨by decide, by decide⟩, _, _, rfl, rfl, .inl ⟨_, rfl, _, _, rfl, rfl, (by show (0 : Int) < 2147483647; decide), _, rfl, st, _, rfl, dp_mix h1, ?_⟩⟩
        refine ⟨_, rfl, st, _, rfl, dg_mix upd_same, _, _, rfl, rfl, .inr ⟨by decide, by decide⟩, _, _, rfl, rfl, .inl ⟨_, rfl, _, _, rfl, rfl, (by show (0 : Int) < 2147483629; decide), .inl ⟨_, rfl, _, rfl, _, _, rfl, rfl, m0, ?_⟩⟩⟩
        exact q _ _ (hk.trans kp_upd) ⟨l, ns, _, _, _, upd_same, by rw [upd_ne nl]; exact h2, h3⟩ (Int.emod_nonneg _ (by omega)) (Int.emod_lt_of_pos _ m0)
    refine ⟨_, pss_cons (ps_if (PW.pt (pw_and (pt_cmpR op_eq (pe_dget hu (pv 0) pe_str (fun _ _ => rfl)) pe_int (nomark _)) (pw_and1 (pt_cmpR op_lt (pe_dget hu (pv 0) pe_str (fun _ _ => rfl)) (pe_callB call_len_seq (by rfl) ml PySem.boot_len (pa_cons (pe_dget hu (pv 0) pe_str (fun _ _ => rfl)) pa_nil)) (nomark _)))))
        (pss_cons (ps_set (i := 2) scDraw.nd rfl (.inl rfl) (pe_ix ix_list (pe_dget hu (pv 0) pe_str (fun _ _ => rfl)) (pe_dget hu (pv 0) pe_str (fun _ _ => rfl)) (fun _ _ => rfl)))
        (pss_cons (ps_dput hu (pv 0) pe_str (pe_op op_add (pe_dget hu (pv 0) pe_str (fun _ _ => rfl)) pe_int) rfl)
        (pss_cons (ps_dput hu (pv 0) pe_str (pe_op op_mod (pe_callTy call_int1 (by rfl) mi (by decide +kernel) (pa_cons (pe_op op_add (pe_op op_add (pe_op op_mul (pe_dget hu (pv 0) pe_str (fun _ _ => rfl)) pe_int) (pv 2)) pe_int) pa_nil)) pe_int) rfl)
        (pss_cons (ps_if (pt_cmpR op_lt (pv 2) (pe_op op_pow pe_int pe_int) (nomark _)) (pss_one (ps_ret (pe_op op_mod (pe_callTy call_int1 (by rfl) mi (by decide +kernel) (pa_cons (pv 2) pa_nil)) (pv 1)))) pss_nil)
        (pss_one (ps_dput hu (pv 0) pe_str (pv 2) rfl)))))) pss_nil) htl, ?_⟩
    obtain ⟨l, ns, a, b, c, h1, h2, h3⟩ := hst
    have nl : l ≠ st := ne_of h2 h1 (by intro z; cases z)
    refine ⟨_, rfl, st, _, rfl, dg_left h1, rfl, _, rfl, ite2 (fun g => ?_) (fun g => ?_)⟩
    · refine ⟨_, rfl, st, _, rfl, dg_at h1, _, rfl, st, _, rfl, dg_cells h1, l, _, rfl, .inl (SqL.of h2), _, _, rfl, rfl, _, rfl, ite2 (fun g2 => ?_) (fun g2 => ?_)⟩
      · have g2 : a < (((ns.map V.int).length : Nat) : Int) := of_decide_eq_true g2
        rw [List.length_map] at g2
        obtain ⟨z, hz⟩ : ∃ z, ns[a.toNat]? = some z := ⟨ns[a.toNat]'(by omega), List.getElem?_eq_getElem _⟩
        have ea : a = ((a.toNat : Nat) : Int) := by omega
        have hV : atI (ns.map V.int) a = some (.int z) := by
          rw [ea]
          refine atI_nat ?_
          rw [List.getElem?_map, hz]
          rfl
        refine ⟨_, rfl, st, _, rfl, dg_cells h1, _, rfl, st, _, rfl, dg_at h1, l, _, a, .int z, rfl, rfl, SqL.of h2, hV, ?_⟩
        refine ⟨_, rfl, st, _, rfl, dg_at h1, _, _, rfl, rfl, _, rfl, st, _, rfl, dp_at h1, ?_⟩
        refine ⟨_, rfl, st, _, rfl, dg_mix upd_same, _, _, rfl, rfl, .inr ⟨by decide, by decide⟩, _, rfl, _, _, rfl, rfl, _, _, rfl, rfl, .inl ⟨_, rfl, _, _, rfl, rfl, (by show (0 : Int) < 2147483647; decide), _, rfl, st, _, rfl, dp_mix upd_same, ?_⟩⟩
        rw [upd_upd]
        refine ⟨_, rfl, _, _, rfl, rfl, ⟨by decide, by decide, by decide⟩, _, _, rfl, rfl, _, rfl, ite2 (fun g3 => ?_) (fun g3 => ?_)⟩
        · refine ⟨_, rfl, .inl ⟨_, rfl, _, rfl, _, _, rfl, rfl, m0, ?_⟩⟩
          exact q _ _ kp_upd ⟨l, ns, _, _, _, upd_same, by rw [upd_ne nl]; exact h2, by omega⟩ (Int.emod_nonneg _ (by omega)) (Int.emod_lt_of_pos _ m0)
        · refine ⟨_, rfl, _, rfl, st, _, rfl, dp_left upd_same, ?_⟩
          rw [upd_upd]
          exact rd l ns _ _ _ _ _ upd_same (by rw [upd_ne nl]; exact h2) (by omega) kp_upd
      · exact rd l ns a b c H none h1 h2 h3 (Kp.refl _ _)
    · refine iteF ?_
      exact rd l ns a b c H none h1 h2 h3 (Kp.refl _ _)
theorem ok_pick {f g : Addr} {fd gd : FuncData} (FF : Fun K "_law_pick" "_law_pick" sPick f fd)
    (G : FnOk P w K mg base CX0 1 g gd ["_law_state", "_law_bound"] spDraw) (bG : Binds K gd ["_law_state", "_law_bound"] []) (kG : PySem.W.keepIn K (.ref g) = true) (mG : mg "_law_draw" = some (.ref g)) (ml : mg "len" = none) :
    FnOk P w K mg base CX0 2 f fd ["_law_state", "_law_things"] spPick := by
  refine FF.ok scPick (fun vs H Q E h => ?_) (fun cdv A outer s H vs Q E hr h => ?_)
  · obtain ⟨st, l, xs, rfl, _⟩ := h
    rfl
  · obtain ⟨st, l, xs, rfl, hst, hl, h0, h1, q⟩ := h
    refine ⟨_, pss_one (ps_ret (pe_ix ix_list (pv 1) (pe_call G hr (by rfl) mG kG bG .nil pass0 (pa_cons (pv 0) (pa_cons (pe_callB call_len_seq (by rfl) ml PySem.boot_len (pa_cons (pv 1) pa_nil)) pa_nil))) (fun _ _ => rfl))), ?_⟩
    obtain ⟨kvs, hk⟩ := hst.dk
    have nl : l ≠ st := ne_of hl hk (by intro z; cases z)
    refine ⟨_, rfl, _, rfl, _, rfl, l, _, rfl, .inl (SqL.of hl), st, _, rfl, hst, by omega, by omega, fun H' z kp s' z0 z1 => ?_⟩
    have hz : z.toNat < xs.length := by omega
    have ez : z = ((z.toNat : Nat) : Int) := by omega
    have hg : xs[z.toNat]? = some xs[z.toNat] := List.getElem?_eq_getElem hz
    have hV : atI xs z = some xs[z.toNat] := by
      have e := atI_nat hg
      rw [← ez] at e
      exact e
    exact ⟨l, xs, z, _, rfl, rfl, SqL.of (kp _ _ nl hl), hV, q H' _ kp s' (List.getElem_mem hz)⟩
theorem ok_is {f : Addr} {fd : FuncData} (FF : Fun K "_law_is" "_law_is" sIs f fd) (mi : mg "isinstance" = none) (mb : mg "bool" = none) : FnOk P w K mg base CX0 1 f fd ["_law_actual", "_law_due"] spIs := by
  refine FF.ok scIs (fun vs H Q E h => ?_) (fun cdv A outer s H vs Q E hr h => ?_)
  · obtain ⟨x, y, rfl, _⟩ := h
    rfl
  · obtain ⟨x, y, rfl, q⟩ := h
    refine ⟨_, pss_one (ps_ret (pe_and (pe_callB call_isi (by rfl) mi (by decide +kernel) (pa_cons (pv 0) (pa_cons (pe_bltn (v := .ty "bool") (u := .type "bool") (by rfl) mb (by decide +kernel) rfl) pa_nil)))
      (pe_one (pe_cmpR op_eq (pv 0) (pv 1) (nomark _))))), ?_⟩
    refine ⟨_, rfl, _, _, _, _, true, rfl, .ty "bool", .base (.bl _), rfl, true, rfl, iteT ⟨_, rfl, _, rfl, rfl, ?_⟩⟩
    have e : decide (V.bl x = V.bl y) = decide (x = y) := by
      by_cases h : x = y
      · subst h
        simp
      · rw [decide_eq_false h, decide_eq_false fun z => h (V.bl.inj z)]
    rw [e]
    exact q
theorem ok_feast {n : Nat} {f g g2 g3 : Addr} {fd gd gd2 gd3 : FuncData} (FF : Fun K "_law_feast" "_law_feast" sFeast f fd)
    (G : FnOk P w K mg base CX0 1 g gd ["_law_state", "_law_bound"] spDraw) (bG : Binds K gd ["_law_state", "_law_bound"] []) (kG : PySem.W.keepIn K (.ref g) = true) (mG : mg "_law_draw" = some (.ref g))
    (G2 : FnOk P w K mg base CX0 2 g2 gd2 ["_law_state", "_law_things"] spPick) (bG2 : Binds K gd2 ["_law_state", "_law_things"] []) (kG2 : PySem.W.keepIn K (.ref g2) = true) (mG2 : mg "_law_pick" = some (.ref g2))
    (G3 : FnOk P w K mg base CX0 (3 + n) g3 gd3 ["_law_state", "_law_deep"] (spFeast n)) (bG3 : Binds K gd3 ["_law_state", "_law_deep"] []) (kG3 : PySem.W.keepIn K (.ref g3) = true) (mG3 : mg "_law_feast" = some (.ref g3)) :
    FnOk P w K mg base CX0 (3 + n + 1) f fd ["_law_state", "_law_deep"] (spFeast (n + 1)) := by
  refine FF.ok scFeast (fun vs H Q E h => ?_) (fun cdv A outer s H vs Q E hr h => ?_)
  · obtain ⟨st, k, rfl, _⟩ := h
    rfl
  · obtain ⟨st, k, rfl, hst, hkn, q⟩ := h
    have hr1 : Room 1 _ := hr.mono (by omega)
    have hr2 : Room 2 _ := hr.mono (by omega)
    have pd : ∀ {i : Int} {j pos p1 p2 p3}, PE (cxOf CX0 P w K mg base ["_law_state", "_law_deep", "_law_kind", "_law_month", "_law_word"] "_law_feast" (defScope sFeast) f cdv A outer s H E).nox (.Call (.Name "_law_draw" p1) [.Name "_law_state" p2, .Constant (.int i) j p3] [] pos) _ :=
      fun {i j pos p1 p2 p3} => pe_call G hr1 (by rfl) mG kG bG .nil pass0 (pa_cons (pv 0) (pa_cons pe_int pa_nil))
    obtain ⟨tt, htl, rd⟩ : ∃ t, PSs (cxOf CX0 P w K mg base ["_law_state", "_law_deep", "_law_kind", "_law_month", "_law_word"] "_law_feast" (defScope sFeast) f cdv A outer s H E).nox ((defBody sFeast).drop 1) t ∧
        ∀ (z : Int) (H1 : Hp), Kp st H H1 → StAt H1 st → 0 ≤ z → (z < 3 ∨ 0 < k) → t { nx := fun _ H' => Q .non H', rt := Q } [some (.ref st), some (.int k), some (.int z), none, none] H1 := by
      refine ⟨_, pss_cons (ps_if (pt_cmpR op_eq (pv 2) pe_int (nomark _)) (pss_one (ps_ret (pe_tup (pa_cons pe_str (pa_cons pd pa_nil))))) pss_nil)
      (pss_cons (ps_if (pt_cmpR op_eq (pv 2) pe_int (nomark _))
        (pss_cons (ps_set (i := 3) scFeast.nd rfl (.inl rfl) (pe_call G2 hr2 (by rfl) mG2 kG2 bG2 .nil pass0 (pa_cons (pv 0) (pa_cons (pe_lst (pa_cons pe_int (pa_cons pe_int (pa_cons pe_int (pa_cons pe_int pa_nil))))) pa_nil))))
        (pss_one (ps_ret (pe_tup (pa_cons pe_str (pa_cons (pe_call G2 hr2 (by rfl) mG2 kG2 bG2 .nil pass0 (pa_cons (pv 0) (pa_cons (pe_lst (pa_cons pe_str (pa_cons pe_str pa_nil))) pa_nil)))
          (pa_cons (pv 3) (pa_cons (pe_call G2 hr2 (by rfl) mG2 kG2 bG2 .nil pass0 (pa_cons (pv 0) (pa_cons (pe_lst (pa_cons pe_int (pa_cons pe_int (pa_cons pe_int (pa_cons pe_int (pa_cons pe_int pa_nil)))))) pa_nil))) pa_nil)))))))) pss_nil)
      (pss_cons (ps_if (pt_cmpR op_eq (pv 2) pe_int (nomark _))
        (pss_one (ps_ret (pe_tup (pa_cons pe_str (pa_cons (pe_call G2 hr2 (by rfl) mG2 kG2 bG2 .nil pass0 (pa_cons (pv 0) (pa_cons (pe_lst (pa_cons pe_str (pa_cons pe_str (pa_cons pe_str pa_nil)))) pa_nil))) pa_nil))))) pss_nil)
      (pss_cons (ps_if (pt_cmpR op_eq (pv 2) pe_int (nomark _))
        (pss_one (ps_ret (pe_tup (pa_cons pe_str (pa_cons (pe_call G3 hr (by rfl) mG3 kG3 bG3 .nil pass0 (pa_cons (pv 0) (pa_cons (pe_op op_sub (pv 1) pe_int) pa_nil)))
          (pa_cons (pe_call G2 hr2 (by rfl) mG2 kG2 bG2 .nil pass0 (pa_cons (pv 0) (pa_cons (pe_lst (pa_cons pe_int (pa_cons pe_int (pa_cons (pe_un un_neg pe_int) (pa_cons pe_int (pa_cons pe_int (pa_cons (pe_un un_neg pe_int) (pa_cons pe_int pa_nil)))))))) pa_nil))) pa_nil)))))) pss_nil)
      (pss_cons (ps_if (pt_cmpR op_eq (pv 2) pe_int (nomark _))
        (pss_one (ps_ret (pe_tup (pa_cons pe_str (pa_cons (pe_call G3 hr (by rfl) mG3 kG3 bG3 .nil pass0 (pa_cons (pv 0) (pa_cons (pe_op op_sub (pv 1) pe_int) pa_nil))) pa_nil))))) pss_nil)
      (pss_cons (ps_set (i := 4) scFeast.nd rfl (.inl rfl) (pe_call G2 hr2 (by rfl) mG2 kG2 bG2 .nil pass0 (pa_cons (pv 0) (pa_cons (pe_lst (pa_cons pe_str (pa_cons pe_str (pa_cons pe_str (pa_cons pe_str pa_nil))))) pa_nil))))
      (pss_one (ps_ret (pe_tup (pa_cons (pv 4) (pa_cons (pe_call G3 hr (by rfl) mG3 kG3 bG3 .nil pass0 (pa_cons (pv 0) (pa_cons (pe_op op_sub (pv 1) pe_int) pa_nil)))
        (pa_cons (pe_call G3 hr (by rfl) mG3 kG3 bG3 .nil pass0 (pa_cons (pv 0) (pa_cons (pe_op op_sub (pv 1) pe_int) pa_nil))) pa_nil))))))))))), ?_⟩
      intro z H1 kp1 s1 z0 z1
      -- weekday
      refine ⟨_, rfl, rfl, _, rfl, ite2 (fun g => ?_) (fun g0 => ?_)⟩
      · refine ⟨_, rfl, st, _, rfl, s1, by decide, by decide, fun H2 v kp2 s2 _ _ => ⟨(by show 2 ≤ sizeLine; decide), fun a ha => ?_⟩⟩
        exact q _ a (.wk v) (kp1.trans (kp2.trans (Same.kp (same_new ha)))) (s2.same (same_new ha)) upd_same True.intro (by show 1 ≤ k + 1; omega)
      -- date
      refine ⟨_, rfl, rfl, _, rfl, ite2 (fun g => ?_) (fun g1 => ?_)⟩
      · refine ⟨_, rfl, (by show 4 ≤ sizeLine; decide), fun p hp => ⟨st, p, _, rfl, s1.same (same_new hp), upd_same, by decide, by decide, fun H2 x kp2 s2 hx => ?_⟩⟩
        obtain ⟨m, rfl, m1, m2⟩ : ∃ m : Nat, x = .int m ∧ 1 ≤ m ∧ m ≤ 12 := by
          simp only [List.mem_cons, List.mem_nil_iff, or_false] at hx
          rcases hx with rfl | rfl | rfl | rfl
          · exact ⟨1, rfl, by omega, by omega⟩
          · exact ⟨2, rfl, by omega, by omega⟩
          · exact ⟨2, rfl, by omega, by omega⟩
          · exact ⟨12, rfl, by omega, by omega⟩
        refine ⟨_, rfl, (by show 2 ≤ sizeLine; decide), fun p2 hp2 => ⟨st, p2, _, rfl, s2.same (same_new hp2), upd_same, by decide, by decide, fun H3 y kp3 s3 hy => ?_⟩⟩
        obtain ⟨j, rfl⟩ : ∃ j, y = .str (cal j) := by
          simp only [List.mem_cons, List.mem_nil_iff, or_false] at hy
          rcases hy with rfl | rfl
          · exact ⟨false, rfl⟩
          · exact ⟨true, rfl⟩
        refine ⟨_, rfl, _, rfl, (by show 5 ≤ sizeLine; decide), fun p3 hp3 => ⟨st, p3, _, rfl, s3.same (same_new hp3), upd_same, by decide, by decide, fun H4 u kp4 s4 hu => ?_⟩⟩
        obtain ⟨v, rfl, v1⟩ : ∃ v : Int, u = .int v ∧ 1 ≤ v := by
          simp only [List.mem_cons, List.mem_nil_iff, or_false] at hu
          rcases hu with rfl | rfl | rfl | rfl | rfl
          · exact ⟨1, rfl, by omega⟩
          · exact ⟨28, rfl, by omega⟩
          · exact ⟨29, rfl, by omega⟩
          · exact ⟨31, rfl, by omega⟩
          · exact ⟨15, rfl, by omega⟩
        refine ⟨(by show 4 ≤ sizeLine; decide), fun a ha => ?_⟩
        exact q _ a (.date j m v) (kp1.trans ((Same.kp (same_new hp)).trans (kp2.trans ((Same.kp (same_new hp2)).trans (kp3.trans ((Same.kp (same_new hp3)).trans (kp4.trans (Same.kp (same_new ha))))))))) (s4.same (same_new ha)) upd_same ⟨m1, m2, v1⟩ (by show 1 ≤ k + 1; omega)
      -- told
      refine ⟨_, rfl, rfl, _, rfl, ite2 (fun g => ?_) (fun g2 => ?_)⟩
      · refine ⟨_, rfl, (by show 3 ≤ sizeLine; decide), fun p hp => ⟨st, p, _, rfl, s1.same (same_new hp), upd_same, by decide, by decide, fun H2 x kp2 s2 hx => ?_⟩⟩
        obtain ⟨t, rfl⟩ : ∃ t, x = .str (nm t) := by
          simp only [List.mem_cons, List.mem_nil_iff, or_false] at hx
          rcases hx with rfl | rfl | rfl
          · exact ⟨.full, rfl⟩
          · exact ⟨.spring, rfl⟩
          · exact ⟨.non, rfl⟩
        refine ⟨(by show 2 ≤ sizeLine; decide), fun a ha => ?_⟩
        exact q _ a (.told t) (kp1.trans ((Same.kp (same_new hp)).trans (kp2.trans (Same.kp (same_new ha))))) (s2.same (same_new ha)) upd_same True.intro (by show 1 ≤ k + 1; omega)
      -- it is deep enough
      have hk : 0 < k := by
        rcases z1 with z1 | z1
        · have e : z = 0 ∨ z = 1 ∨ z = 2 := by omega
          rcases e with rfl | rfl | rfl
          · exact absurd (decide_eq_true rfl) g0
          · exact absurd (decide_eq_true rfl) g1
          · exact absurd (decide_eq_true rfl) g2
        · exact z1
      have ek : (k : Int) - 1 = ((k - 1 : Nat) : Int) := by omega
      have ek2 : k - 1 + 1 ≤ n := by omega
      -- shift
      refine ⟨_, rfl, rfl, _, rfl, ite2 (fun g => ?_) (fun g3 => ?_)⟩
      · refine ⟨_, rfl, _, rfl, _, _, rfl, rfl, st, k - 1, (congrArg (fun i : Int => [V.ref st, V.int i]) ek), s1, ek2, fun H2 b x kp2 s2 hx xo xd => ?_⟩
        refine ⟨_, rfl, _, rfl, _, rfl, (by show 7 ≤ sizeLine; decide), fun p hp => ⟨st, p, _, rfl, s2.same (same_new hp), upd_same, by decide, by decide, fun H3 u kp3 s3 hu => ?_⟩⟩
        obtain ⟨v, rfl, v1, v2⟩ : ∃ v : Int, u = .int v ∧ -400 ≤ v ∧ v ≤ 400 := by
          simp only [List.mem_cons, List.mem_nil_iff, or_false] at hu
          rcases hu with rfl | rfl | rfl | rfl | rfl | rfl | rfl
          · exact ⟨0, rfl, by omega, by omega⟩
          · exact ⟨1, rfl, by omega, by omega⟩
          · exact ⟨-1, rfl, by omega, by omega⟩
          · exact ⟨7, rfl, by omega, by omega⟩
          · exact ⟨400, rfl, by omega, by omega⟩
          · exact ⟨-400, rfl, by omega, by omega⟩
          · exact ⟨30, rfl, by omega, by omega⟩
        refine ⟨(by show 3 ≤ sizeLine; decide), fun a ha => ?_⟩
        exact q _ a (.shift x v) (kp1.trans (kp2.trans ((Same.kp (same_new hp)).trans (kp3.trans (Same.kp (same_new ha)))))) (s3.same (same_new ha)) ⟨b, upd_same, ((hx.same (same_new hp)).kp (s2.same (same_new hp)) kp3).same (same_new ha)⟩ ⟨xo, v1, v2⟩ (by show x.deep + 1 ≤ k + 1; omega)
      -- not
      refine ⟨_, rfl, rfl, _, rfl, ite2 (fun g => ?_) (fun g4 => ?_)⟩
      · refine ⟨_, rfl, _, rfl, _, _, rfl, rfl, st, k - 1, (congrArg (fun i : Int => [V.ref st, V.int i]) ek), s1, ek2, fun H2 b x kp2 s2 hx xo xd => ⟨(by show 2 ≤ sizeLine; decide), fun a ha => ?_⟩⟩
        exact q _ a (.no x) (kp1.trans (kp2.trans (Same.kp (same_new ha)))) (s2.same (same_new ha)) ⟨b, upd_same, hx.same (same_new ha)⟩ xo (by show x.deep + 1 ≤ k + 1; omega)
      -- and, or, first
      refine ⟨_, rfl, (by show 4 ≤ sizeLine; decide), fun p hp => ⟨st, p, _, rfl, s1.same (same_new hp), upd_same, by decide, by decide, fun H2 wd kp2 s2 hw => ?_⟩⟩
      refine ⟨_, rfl, _, rfl, _, rfl, _, _, rfl, rfl, st, k - 1, (congrArg (fun i : Int => [V.ref st, V.int i]) ek), s2, ek2, fun H3 b x kp3 s3 hx xo xd => ?_⟩
      refine ⟨_, rfl, _, rfl, _, _, rfl, rfl, st, k - 1, (congrArg (fun i : Int => [V.ref st, V.int i]) ek), s3, ek2, fun H4 c y kp4 s4 hy yo yd => ⟨(by show 3 ≤ sizeLine; decide), fun a ha => ?_⟩⟩
      have hx4 := (hx.kp s3 kp4).same (same_new ha (o := .tup [wd, .ref b, .ref c]))
      have hy4 := hy.same (same_new ha (o := .tup [wd, .ref b, .ref c]))
      have kk := kp1.trans ((Same.kp (same_new hp)).trans (kp2.trans (kp3.trans (kp4.trans (Same.kp (same_new ha (o := .tup [wd, .ref b, .ref c])))))))
      have hdp : max x.deep y.deep + 1 ≤ k + 1 := by omega
      simp only [List.mem_cons, List.mem_nil_iff, or_false] at hw
      rcases hw with rfl | rfl | rfl | rfl
      · exact q _ a (.both x y) kk (s4.same (same_new ha)) ⟨b, c, upd_same, hx4, hy4⟩ ⟨xo, yo⟩ hdp
      · exact q _ a (.either x y) kk (s4.same (same_new ha)) ⟨b, c, upd_same, hx4, hy4⟩ ⟨xo, yo⟩ hdp
      · exact q _ a (.first x y) kk (s4.same (same_new ha)) ⟨b, c, upd_same, hx4, hy4⟩ ⟨xo, yo⟩ hdp
      · exact q _ a (.first x y) kk (s4.same (same_new ha)) ⟨b, c, upd_same, hx4, hy4⟩ ⟨xo, yo⟩ hdp
    refine ⟨_, pss_cons (ps_set (i := 2) scFeast.nd rfl (.inl rfl) (pe_ifExp (pt_cmpR op_gt (pv 1) pe_int (nomark _)) pd pd)) htl, ?_⟩
    refine ⟨_, rfl, _, _, rfl, rfl, _, rfl, ite2 (fun g => ?_) (fun g => ?_)⟩
    · have g : (0 : Int) < (k : Int) := of_decide_eq_true g
      exact ⟨_, rfl, st, _, rfl, hst, by decide, by decide, fun H1 z kp1 s1 z0 z1 => rd z H1 kp1 s1 z0 (.inr (by omega))⟩
    · exact ⟨_, rfl, st, _, rfl, hst, by decide, by decide, fun H1 z kp1 s1 z0 z1 => rd z H1 kp1 s1 z0 (.inl z1)⟩
end
end Al

set_option Elab.async false
set_option linter.all false
set_option maxRecDepth 100000
set_option maxHeartbeats 4000000
/-! A dict whose keys are pairs of a feast and a day. -/
namespace Al
open PySem PySem.Spec PyProof.Rows L2
/-- a feast as a key -/
def keyF : Feast → NestedKey
  | .wk w => .tup [.text "weekday", .num w]
  | .date j m n => .tup [.text "date", .text (cal j), .num m, .num n]
  | .told t => .tup [.text "told", .text (nm t)]
  | .shift f n => .tup [.text "shift", keyF f, .num n]
  | .no f => .tup [.text "not", keyF f]
  | .both f g => .tup [.text "and", keyF f, keyF g]
  | .either f g => .tup [.text "or", keyF f, keyF g]
  | .first f g => .tup [.text "first", keyF f, keyF g]
def kd (f : Feast) (d : Int) : NestedKey := .tup [keyF f, .num d]
theorem keyF_head : ∀ f : Feast, ∃ r, keyF f = .tup (.text (kw f) :: r)
  | .wk _ => ⟨_, rfl⟩
  | .date _ _ _ => ⟨_, rfl⟩
  | .told _ => ⟨_, rfl⟩
  | .shift _ _ => ⟨_, rfl⟩
  | .no _ => ⟨_, rfl⟩
  | .both _ _ => ⟨_, rfl⟩
  | .either _ _ => ⟨_, rfl⟩
  | .first _ _ => ⟨_, rfl⟩
theorem kw_of {f g : Feast} (h : keyF f = keyF g) : decide (V.str (kw g) = V.str (kw f)) = true := by
  obtain ⟨r, e⟩ := keyF_head f
  obtain ⟨r', e'⟩ := keyF_head g
  rw [e, e'] at h
  injection h with h
  injection h with h _
  injection h with h
  rw [h]
  exact decide_eq_true rfl
theorem cal_inj {i j : Bool} (h : cal i = cal j) : i = j := by
  have e := cal_jul i
  rw [h, cal_jul j] at e
  exact e.symm
theorem nm_inj {s t : TN} (h : nm s = nm t) : s = t := by
  cases s <;> cases t <;> first | rfl | exact absurd h (by decide +kernel)
theorem keyF_inj : ∀ {f g : Feast}, keyF f = keyF g → f = g
  | .wk w, g, h => by
    obtain ⟨v, rfl⟩ := kw_wk (kw_of h)
    simp only [keyF] at h
    injection h with h
    injection h with _ h
    injection h with h _
    injection h with h
    rw [h]
  | .date j m n, g, h => by
    obtain ⟨j', m', n', rfl⟩ := kw_date (kw_of h)
    simp only [keyF] at h
    injection h with h
    injection h with _ h
    injection h with h1 h
    injection h with h2 h
    injection h with h3 _
    injection h1 with h1
    injection h2 with h2
    injection h3 with h3
    rw [cal_inj h1, h3, Int.ofNat.inj h2]
  | .told t, g, h => by
    obtain ⟨v, rfl⟩ := kw_told (kw_of h)
    simp only [keyF] at h
    injection h with h
    injection h with _ h
    injection h with h _
    injection h with h
    rw [nm_inj h]
  | .shift a n, g, h => by
    obtain ⟨b, m, rfl⟩ := kw_shift (kw_of h)
    simp only [keyF] at h
    injection h with h
    injection h with _ h
    injection h with h1 h
    injection h with h2 _
    injection h2 with h2
    rw [keyF_inj h1, h2]
  | .no a, g, h => by
    obtain ⟨b, rfl⟩ := kw_no (kw_of h)
    simp only [keyF] at h
    injection h with h
    injection h with _ h
    injection h with h1 _
    rw [keyF_inj h1]
  | .both a b, g, h => by
    obtain ⟨c, d, rfl⟩ := kw_both (kw_of h)
    simp only [keyF] at h
    injection h with h
    injection h with _ h
    injection h with h1 h
    injection h with h2 _
    rw [keyF_inj h1, keyF_inj h2]
  | .either a b, g, h => by
    obtain ⟨c, d, rfl⟩ := kw_either (kw_of h)
    simp only [keyF] at h
    injection h with h
    injection h with _ h
    injection h with h1 h
    injection h with h2 _
    rw [keyF_inj h1, keyF_inj h2]
  | .first a b, g, h => by
    obtain ⟨c, d, rfl⟩ := kw_first (kw_of h)
    simp only [keyF] at h
    injection h with h
    injection h with _ h
    injection h with h1 h
    injection h with h2 _
    rw [keyF_inj h1, keyF_inj h2]
theorem kd_inj {f g : Feast} {d e : Int} (h : kd f d = kd g e) : f = g ∧ d = e := by
  unfold kd at h
  injection h with h
  injection h with h1 h
  injection h with h2 _
  injection h2 with h2
  exact ⟨keyF_inj h1, h2⟩
theorem keyF_depth : ∀ f : Feast, (keyF f).depth ≤ f.deep
  | .wk _ => by simp [keyF, NestedKey.depth, NestedKey.depthAll, Feast.deep]
  | .date _ _ _ => by simp [keyF, NestedKey.depth, NestedKey.depthAll, Feast.deep]
  | .told _ => by simp [keyF, NestedKey.depth, NestedKey.depthAll, Feast.deep]
  | .shift a _ => by
    have := keyF_depth a
    simp [keyF, NestedKey.depth, NestedKey.depthAll, Feast.deep]
    omega
  | .no a => by
    have := keyF_depth a
    simp [keyF, NestedKey.depth, NestedKey.depthAll, Feast.deep]
    omega
  | .both a b => by
    have := keyF_depth a
    have := keyF_depth b
    simp [keyF, NestedKey.depth, NestedKey.depthAll, Feast.deep]
    omega
  | .either a b => by
    have := keyF_depth a
    have := keyF_depth b
    simp [keyF, NestedKey.depth, NestedKey.depthAll, Feast.deep]
    omega
  | .first a b => by
    have := keyF_depth a
    have := keyF_depth b
    simp [keyF, NestedKey.depth, NestedKey.depthAll, Feast.deep]
    omega
theorem kd_depth (f : Feast) (d : Int) : (kd f d).depth ≤ f.deep + 1 := by
  have := keyF_depth f
  simp [kd, NestedKey.depth, NestedKey.depthAll]
  omega
section
variable {X : Cx} {pins : List (Addr × Obj)} {σ : L2.St} {H : Hp} {s : Shared}
theorem nested_text {h : Heap} {x : Str} {u : Value} (r : RelV (.str x) u) : NestedIs h (.text x) u := by
  obtain ⟨t, rfl⟩ := r
  exact .text x t
theorem nested_num {h : Heap} {x : Int} {u : Value} (r : RelV (.int x) u) : NestedIs h (.num x) u := by
  obtain ⟨t, rfl⟩ := r
  exact .int x t
/-- the tuple at a is the key of its items -/
theorem nested_tup (I : Inv X pins σ H s) {a : Addr} {xs : List V} {ks : List NestedKey} (h : H a = some (.tup xs)) (hk : ∀ its, Vals xs its → NestedAll s.heap ks its) : NestedIs s.heap (.tup ks) (.ref a) := by
  obtain ⟨its, r, ⟨o, h1, h2, n, h3⟩, _⟩ := I.tuple (SqT.of h)
  exact .tup h1 h2 h3 (by simpa using hk its r)
theorem nested_of (I : Inv X pins σ H s) : ∀ {f : Feast} {a : Addr}, FAt H f a → NestedIs s.heap (keyF f) (.ref a)
  | .wk _, _, h => nested_tup I h fun its r => by
    cases r with | cons r1 r => cases r with | cons r2 r => cases r; exact .cons (nested_text r1) (.cons (nested_num r2) .nil)
  | .date _ _ _, _, h => nested_tup I h fun its r => by
    cases r with | cons r1 r => cases r with | cons r2 r => cases r with | cons r3 r => cases r with | cons r4 r => cases r; exact .cons (nested_text r1) (.cons (nested_text r2) (.cons (nested_num r3) (.cons (nested_num r4) .nil)))
  | .told _, _, h => nested_tup I h fun its r => by
    cases r with | cons r1 r => cases r with | cons r2 r => cases r; exact .cons (nested_text r1) (.cons (nested_text r2) .nil)
  | .shift _ _, _, ⟨b, h, x⟩ => nested_tup I h fun its r => by
    cases r with | cons r1 r => cases r with | cons r2 r => cases r with | cons r3 r => cases r; cases r2; exact .cons (nested_text r1) (.cons (nested_of I x) (.cons (nested_num r3) .nil))
  | .no _, _, ⟨b, h, x⟩ => nested_tup I h fun its r => by
    cases r with | cons r1 r => cases r with | cons r2 r => cases r; cases r2; exact .cons (nested_text r1) (.cons (nested_of I x) .nil)
  | .both _ _, _, ⟨b, c, h, x, y⟩ => nested_tup I h fun its r => by
    cases r with | cons r1 r => cases r with | cons r2 r => cases r with | cons r3 r => cases r; cases r2; cases r3; exact .cons (nested_text r1) (.cons (nested_of I x) (.cons (nested_of I y) .nil))
  | .either _ _, _, ⟨b, c, h, x, y⟩ => nested_tup I h fun its r => by
    cases r with | cons r1 r => cases r with | cons r2 r => cases r with | cons r3 r => cases r; cases r2; cases r3; exact .cons (nested_text r1) (.cons (nested_of I x) (.cons (nested_of I y) .nil))
  | .first _ _, _, ⟨b, c, h, x, y⟩ => nested_tup I h fun its r => by
    cases r with | cons r1 r => cases r with | cons r2 r => cases r with | cons r3 r => cases r; cases r2; cases r3; exact .cons (nested_text r1) (.cons (nested_of I x) (.cons (nested_of I y) .nil))
/-- at t stands the pair of the feast f and the day d -/
def KeyAt (H : Hp) (t : Addr) (f : Feast) (d : Int) : Prop := ∃ a, H t = some (.tup [.ref a, .int d]) ∧ FAt H f a ∧ f.deep ≤ 7
theorem KeyAt.mono {H H' : Hp} {t : Addr} {f : Feast} {d : Int} (h : KeyAt H t f d) (k : ∀ b xs, H b = some (.tup xs) → H' b = some (.tup xs)) : KeyAt H' t f d := by
  obtain ⟨a, h1, h2, h3⟩ := h
  exact ⟨a, k _ _ h1, h2.mono k, h3⟩
theorem KeyAt.is (I : Inv X pins σ H s) {t : Addr} {f : Feast} {d : Int} (h : KeyAt H t f d) : (nestedKind X.prog X.w).is s.heap (kd f d) t := by
  obtain ⟨a, h1, h2, h3⟩ := h
  refine ⟨nested_tup I h1 fun its r => ?_, ?_⟩
  · cases r with
    | cons r1 r =>
      cases r with
      | cons r2 r =>
        cases r
        cases r1
        exact .cons (nested_of I h2) (.cons (nested_num r2) .nil)
  · have := kd_depth f d
    omega
/-- the entries: a feast, a day, where their pair stands, the value -/
abbrev Ent := Feast × Int × Addr × Bool
abbrev entH (e : Ent) : NestedKey × Addr × Value := (kd e.1 e.2.1, e.2.2.1, .bool e.2.2.2)
/-- the dict of such pairs -/
def KnO (P : Program) (w : World) (d : Addr) (es : List Ent) : HO := .ext fun h => (d == sysModules) = false ∧ ∃ o zs ep, h.get? d = some o ∧ o.ExactDict ∧ o.data = .dict zs ep ∧ zs.toList = (es.map entH).map (entryOfKey (nestedKind P w)) ∧ ((es.map entH).map (·.1)).Nodup
def KnIn (H : Hp) (es : List Ent) : Prop := ∀ e ∈ es, KeyAt H e.2.2.1 e.1 e.2.1
theorem KnIn.mono {H H' : Hp} {es : List Ent} (h : KnIn H es) (k : ∀ b xs, H b = some (.tup xs) → H' b = some (.tup xs)) : KnIn H' es := fun e he => (h e he).mono k
theorem kn_dict (I : Inv X pins σ H s) {d : Addr} {es : List Ent} (h : H d = some (KnO X.prog X.w d es)) (hk : KnIn H es) : (d == sysModules) = false ∧ s.heap.DictOfH (nestedKind X.prog X.w) d (es.map entH) := by
  obtain ⟨⟨hd, o, zs, ep, h1, h2, h3, h4, h5⟩, _⟩ := (I.hok d _ h)
  refine ⟨hd, o, zs, ep, h1, h2, h3, h4, fun x hx => ?_, h5⟩
  obtain ⟨e, he, rfl⟩ := List.mem_map.mp hx
  exact (hk e he).is I
theorem kn_new {P : Program} {w : World} {H' : Hp} {h' : Heap} {d : Addr} {es : List Ent} (hd : (d == sysModules) = false) (m : h'.DictOfH (nestedKind P w) d (es.map entH)) : ObjOk P w H' h' d (KnO P w d es) := by
  obtain ⟨o, zs, ep, h1, h2, h3, h4, _, h5⟩ := m
  exact ⟨⟨hd, o, zs, ep, h1, h2, h3, h4, h5⟩, ⟨o, h1⟩, fun g1 g2 ⟨q0, q1, q2, q3, q4, q5⟩ k => ⟨q0, q1, q2, q3, k _ q4, q5⟩⟩
/-- what is found at a key -/
def entVal (es : List Ent) (f : Feast) (d : Int) : Option Bool := (atKey (es.map entH) (kd f d)).bind fun p => match p.2 with | .bool b => some b | _ => none
/-- {} -/
def tDNewN (P : Program) (w : World) : TE := fun _ H Q => ∀ p, H p = none → Q (.ref p) (upd H p (KnO P w p []))
theorem pe_dnewN {pos : Pos} : PE X (.Dict [] [] pos) (tDNewN X.prog X.w) := ⟨fun pins s σ H Q I h => by
  have hb : (s.heap.objs.size == sysModules) = false := beq_eq_false_iff_ne.mpr (Ne.symm (Nat.ne_of_lt I.big))
  exact wpAny_Dict_empty ⟨.ref s.heap.objs.size, _, I.laid (a := s.heap.objs.size) (o := KnO X.prog X.w s.heap.objs.size []) (t' := s.toks) (fun _ _ q => Heap.get?_push_of_some _ q) (Nat.le_refl _) (kn_new hb (Heap.DictOfH.new s.heap)), rfl, h _ (I.hok.fresh (Nat.le_refl _))⟩⟩
/-- key not in d -/
def rKnNot (P : Program) (w : World) : R2 := fun x y H Q => ∃ t d es f k, x = .ref t ∧ y = .ref d ∧ H d = some (KnO P w d es) ∧ KnIn H es ∧ KeyAt H t f k ∧ Q (.bl (!(atKey (es.map entH) (kd f k)).isSome)) H
theorem op_knot (hu : X.A.units + 64 < cLine) : OpR X (compareOp .NotIn) (rKnNot X.prog X.w) := by
  intro pins s σ H x y v u Q I rx ry h
  obtain ⟨t, d, es, f, k, rfl, rfl, hd, hk, ht, q⟩ := h
  cases rx
  cases ry
  obtain ⟨hs, m⟩ := kn_dict I hd hk
  refine notIn_keyed (knd := nestedKind X.prog X.w) (kvs := pairsH (es.map entH)) (by show X.A.units + 1 + 8 < cLine; omega) (ht.is I) hs ⟨_, m, rfl⟩ ?_
  rw [valueAt_pairsH, Option.isSome_map]
  exact ⟨.bl _, H, I.tok _, rfl, q⟩
/-- d[key] -/
def rKnGet (P : Program) (w : World) : R2 := fun x y H Q => ∃ t d es f k a b, x = .ref d ∧ y = .ref t ∧ H d = some (KnO P w d es) ∧ KnIn H es ∧ KeyAt H t f k ∧ atKey (es.map entH) (kd f k) = some (a, .bool b) ∧ Q (.bl b) H
theorem ix_kn (hu : X.A.units + 64 < cLine) : IxR X (rKnGet X.prog X.w) := by
  intro value slice pins s σ H x y v u Q I rx ry h hs
  obtain ⟨t, d, es, f, k, a, b, rfl, rfl, hd, hk, ht, he, q⟩ := h
  cases rx
  cases ry
  obtain ⟨_, m⟩ := kn_dict I hd hk
  exact tail_any m.typeIs F.slot_dict_getitem.lookup (wpAny_getItem_heap (by show X.A.units + 1 + 8 < cLine; omega) (ht.is I) m he ⟨.bl b, H, I.tok _, rfl, q⟩) hs
/-- d[key] = b, where an entry of that key has that value already or there is none -/
def rKnSet (P : Program) (w : World) : V → V → V → Hp → (Hp → Prop) → Prop := fun x y z H Q => ∃ (t d : Addr) (es : List Ent) (f : Feast) (k : Int) (b : Bool), x = .ref d ∧ y = .ref t ∧ z = .bl b ∧ H d = some (KnO P w d es) ∧ KnIn H es ∧ KeyAt H t f k ∧
  (∀ e ∈ es, e.1 = f → e.2.1 = k → e.2.2.2 = b) ∧ es.length ≤ sizeLine ∧ ∀ es' : List Ent, (es' = es ∨ es' = es ++ [(f, k, t, b)]) → ((es'.map entH).map (·.1)).Nodup → (∃ e ∈ es', e.1 = f ∧ e.2.1 = k) → Q (upd H d (KnO P w d es'))
theorem ent_some {es : List Ent} {f : Feast} {k : Int} (h : (atKey (es.map entH) (kd f k)).isSome = true) : ∃ e ∈ es, e.1 = f ∧ e.2.1 = k := by
  unfold atKey at h
  rw [Option.isSome_map] at h
  obtain ⟨x, hx⟩ := Option.isSome_iff_exists.mp h
  have h0 := List.find?_some hx
  have h1 : x.1 = kd f k := of_decide_eq_true h0
  obtain ⟨e, he, rfl⟩ := List.mem_map.mp (List.mem_of_find?_eq_some hx)
  exact ⟨e, he, kd_inj h1⟩
theorem ent_at {es : List Ent} {f : Feast} {k : Int} {b : Bool} (h : ∃ e ∈ es, e.1 = f ∧ e.2.1 = k) (hv : ∀ e ∈ es, e.1 = f → e.2.1 = k → e.2.2.2 = b) : ∃ a, atKey (es.map entH) (kd f k) = some (a, .bool b) := by
  obtain ⟨e, he, e1, e2⟩ := h
  cases q : (es.map entH).find? fun x => decide (x.1 = kd f k) with
  | none =>
    have := List.find?_eq_none.mp q (entH e) (List.mem_map.mpr ⟨e, he, rfl⟩)
    exact absurd (decide_eq_true (show (entH e).1 = kd f k from (by show kd e.1 e.2.1 = kd f k; rw [e1, e2]))) this
  | some x =>
    have h0 := List.find?_some q
    have h1 : x.1 = kd f k := of_decide_eq_true h0
    obtain ⟨g, hg, rfl⟩ := List.mem_map.mp (List.mem_of_find?_eq_some q)
    obtain ⟨g1, g2⟩ := kd_inj (show kd g.1 g.2.1 = kd f k from h1)
    refine ⟨g.2.2.1, ?_⟩
    unfold atKey
    rw [q]
    show some (g.2.2.1, Value.bool g.2.2.2) = _
    rw [hv g hg g1 g2]
theorem set_kn (hu : X.A.units + 64 < cLine) : PSet X (rKnSet X.prog X.w) := by
  intro pins s σ H x y z xv yv u Q I rx ry rz h
  obtain ⟨t, d, es, f, k, b, rfl, rfl, rfl, hd, hk, ht, hv, hz, q⟩ := h
  cases rx
  cases ry
  cases rz
  obtain ⟨hs, m⟩ := kn_dict I hd hk
  refine wpAny_setItem_heap (hsz := by rw [List.length_map]; exact hz) (by show X.A.units + 1 + 8 < cLine; omega) (ht.is I) m fun h' m' sb => ?_
  have he : ∃ ob, h'.get? d = some ob := let ⟨ob, _, _, hq, _⟩ := m'; ⟨ob, hq⟩
  cases hn : atKey (es.map entH) (kd f k) with
  | none =>
    rw [storedH_new hn] at m'
    have e : es.map entH ++ [(kd f k, t, Value.bool b)] = (es ++ [(f, k, t, b)]).map entH := by
      rw [List.map_append]
      rfl
    rw [e] at m'
    have nd : (((es ++ [(f, k, t, b)]).map entH).map (·.1)).Nodup := m'.nodup
    exact ⟨_, d_write I (by rw [hd]; exact True.intro) sb he (kn_new hs m'), q _ (.inr rfl) nd ⟨(f, k, t, b), List.mem_append_right _ List.mem_cons_self, rfl, rfl⟩⟩
  | some p =>
    rw [storedH_old hn] at m'
    have e : (es.map entH).map (putAt (kd f k) (Value.bool b)) = es.map entH := by
      rw [List.map_map]
      refine List.map_congr_left fun g hg => ?_
      show putAt (kd f k) (Value.bool b) (entH g) = entH g
      unfold putAt
      by_cases c : (entH g).1 = kd f k
      · rw [if_pos c]
        obtain ⟨g1, g2⟩ := kd_inj (show kd g.1 g.2.1 = kd f k from c)
        show (kd g.1 g.2.1, g.2.2.1, Value.bool b) = (kd g.1 g.2.1, g.2.2.1, Value.bool g.2.2.2)
        rw [hv g hg g1 g2]
      · rw [if_neg c]
    rw [e] at m'
    have nd : ((es.map entH).map (·.1)).Nodup := m'.nodup
    exact ⟨_, d_write I (by rw [hd]; exact True.intro) sb he (kn_new hs m'), q _ (.inl rfl) nd (ent_some (by rw [hn]; rfl))⟩
end
end Al

set_option Elab.async false
set_option linter.all false
set_option maxRecDepth 100000
set_option maxHeartbeats 4000000
/-! The law's look-ups, each day kept in a dict. -/
namespace Al
open PySem PySem.Spec PyProof.Rows L2
/-- a feast and all within it -/
def subs : Feast → List Feast
  | .wk w => [.wk w]
  | .date j m n => [.date j m n]
  | .told t => [.told t]
  | .shift a n => .shift a n :: subs a
  | .no a => .no a :: subs a
  | .both a b => .both a b :: (subs a ++ subs b)
  | .either a b => .either a b :: (subs a ++ subs b)
  | .first a b => .first a b :: (subs a ++ subs b)
theorem subs_self (f : Feast) : f ∈ subs f := by
  cases f <;> simp [subs]
theorem subs_trans {g f : Feast} (h : g ∈ subs f) : ∀ {z : Feast}, f ∈ subs z → g ∈ subs z
  | .wk w, k => by
    have e : f = .wk w := List.mem_singleton.mp k
    rw [e] at h; exact h
  | .date j m n, k => by
    have e : f = .date j m n := List.mem_singleton.mp k
    rw [e] at h; exact h
  | .told t, k => by
    have e : f = .told t := List.mem_singleton.mp k
    rw [e] at h; exact h
  | .shift a n, k => by
    rcases List.mem_cons.mp k with e | k
    · rw [e] at h; exact h
    · exact List.mem_cons_of_mem _ (subs_trans h k)
  | .no a, k => by
    rcases List.mem_cons.mp k with e | k
    · rw [e] at h; exact h
    · exact List.mem_cons_of_mem _ (subs_trans h k)
  | .both a b, k => by
    rcases List.mem_cons.mp k with e | k
    · rw [e] at h; exact h
    · rcases List.mem_append.mp k with k | k
      · exact List.mem_cons_of_mem _ (List.mem_append_left _ (subs_trans h k))
      · exact List.mem_cons_of_mem _ (List.mem_append_right _ (subs_trans h k))
  | .either a b, k => by
    rcases List.mem_cons.mp k with e | k
    · rw [e] at h; exact h
    · rcases List.mem_append.mp k with k | k
      · exact List.mem_cons_of_mem _ (List.mem_append_left _ (subs_trans h k))
      · exact List.mem_cons_of_mem _ (List.mem_append_right _ (subs_trans h k))
  | .first a b, k => by
    rcases List.mem_cons.mp k with e | k
    · rw [e] at h; exact h
    · rcases List.mem_append.mp k with k | k
      · exact List.mem_cons_of_mem _ (List.mem_append_left _ (subs_trans h k))
      · exact List.mem_cons_of_mem _ (List.mem_append_right _ (subs_trans h k))
theorem pow_max (a b : Nat) : 2 ^ a + 2 ^ b ≤ 2 ^ (max a b + 1) := by
  have h1 : 2 ^ a ≤ 2 ^ max a b := Nat.pow_le_pow_right (by decide) (Nat.le_max_left a b)
  have h2 : 2 ^ b ≤ 2 ^ max a b := Nat.pow_le_pow_right (by decide) (Nat.le_max_right a b)
  rw [Nat.pow_succ]
  omega
theorem subs_len : ∀ f : Feast, (subs f).length + 1 ≤ 2 ^ f.deep
  | .wk _ => by show 1 + 1 ≤ 2 ^ 1; decide
  | .date _ _ _ => by show 1 + 1 ≤ 2 ^ 1; decide
  | .told _ => by show 1 + 1 ≤ 2 ^ 1; decide
  | .shift a _ => by
    have := subs_len a
    simp only [subs, Feast.deep, List.length_cons, Nat.pow_succ]
    omega
  | .no a => by
    have := subs_len a
    simp only [subs, Feast.deep, List.length_cons, Nat.pow_succ]
    omega
  | .both a b => by
    have h1 := subs_len a
    have h2 := subs_len b
    have h3 := pow_max a.deep b.deep
    simp only [subs, Feast.deep, List.length_cons, List.length_append]
    omega
  | .either a b => by
    have h1 := subs_len a
    have h2 := subs_len b
    have h3 := pow_max a.deep b.deep
    simp only [subs, Feast.deep, List.length_cons, List.length_append]
    omega
  | .first a b => by
    have h1 := subs_len a
    have h2 := subs_len b
    have h3 := pow_max a.deep b.deep
    simp only [subs, Feast.deep, List.length_cons, List.length_append]
    omega
/-- all keys that may be met -/
def uni (l : List Feast) (lo hi : Int) : List NestedKey := l.flatMap fun g => (List.range (hi - lo + 1).toNat).map fun i : Nat => kd g (lo + (i : Int))
theorem uni_mem {l : List Feast} {lo hi d : Int} {f : Feast} (h : f ∈ l) (h1 : lo ≤ d) (h2 : d ≤ hi) : kd f d ∈ uni l lo hi :=
  List.mem_flatMap.mpr ⟨f, h, List.mem_map.mpr ⟨(d - lo).toNat, List.mem_range.mpr (by omega), by rw [show lo + (((d - lo).toNat : Nat) : Int) = d by omega]⟩⟩
theorem uni_len (lo hi : Int) : ∀ l : List Feast, (uni l lo hi).length = l.length * (hi - lo + 1).toNat
  | [] => by simp [uni]
  | f :: r => by
    have ih := uni_len lo hi r
    unfold uni at ih ⊢
    rw [List.flatMap_cons, List.length_append, ih, List.length_map, List.length_range, List.length_cons, Nat.succ_mul, Nat.add_comm]
structure KnAt (P : Program) (w : World) (H : Hp) (kn : Addr) (F : TN → List Int) (U : List NestedKey) (es : List Ent) : Prop where
  obj : H kn = some (KnO P w kn es)
  keys : KnIn H es
  vals : ∀ e ∈ es, e.2.2.2 = bh F e.1 e.2.1 ∧ kd e.1 e.2.1 ∈ U
  nd : ((es.map entH).map (·.1)).Nodup
theorem KnAt.len {P : Program} {w : World} {H : Hp} {kn : Addr} {F : TN → List Int} {U : List NestedKey} {es : List Ent} (h : KnAt P w H kn F U es) : es.length ≤ U.length := by
  have q := nodup_len _ U h.nd fun x hx => by
    obtain ⟨y, hy, rfl⟩ := List.mem_map.mp hx
    obtain ⟨e, he, rfl⟩ := List.mem_map.mp hy
    exact (h.vals e he).2
  rw [List.length_map, List.length_map] at q
  exact q
theorem kn_ne {P : Program} {w : World} {kn : Addr} {es : List Ent} (o : HO) (h : ∀ φ, o ≠ .ext φ) : o ≠ KnO P w kn es := h _
theorem KnAt.same {P : Program} {w : World} {H H' : Hp} {kn : Addr} {F : TN → List Int} {U : List NestedKey} {es : List Ent} (h : KnAt P w H kn F U es) (k : Same H H') : KnAt P w H' kn F U es :=
  ⟨k _ _ h.obj, h.keys.mono fun b xs e => k b _ e, h.vals, h.nd⟩
theorem FAt.kn {P : Program} {w : World} {H H' : Hp} {kn a : Addr} {es : List Ent} {f : Feast} (h : FAt H f a) (hk : H kn = some (KnO P w kn es)) (k : Kp kn H H') : FAt H' f a :=
  h.mono fun b xs x => k b _ (ne_of x hk (kn_ne _ fun φ z => nomatch z)) x
theorem FactsAt.kn {P : Program} {w : World} {H H' : Hp} {kn fa : Addr} {F : TN → List Int} {es : List Ent} (h : FactsAt H fa F) (hk : H kn = some (KnO P w kn es)) (k : Kp kn H H') : FactsAt H' fa F :=
  h.kp hk (fun kvs z => kn_ne (.dK kvs) (fun φ z => nomatch z) z.symm) (fun xs z => kn_ne (.lst xs) (fun φ z => nomatch z) z.symm) k
/-- the days within reach -/
def inW (lo hi : Int) (n : Nat) (d : Int) : Prop := lo + 1000 * (n : Int) ≤ d ∧ d ≤ hi - 1000 * (n : Int)
theorem inW.sub {lo hi : Int} {n : Nat} {d e : Int} (h : inW lo hi (n + 1) d) (h1 : d - 1000 ≤ e) (h2 : e ≤ d + 1000) : inW lo hi n e := by
  unfold inW at *
  omega
theorem inW.base {lo hi : Int} {n : Nat} {d : Int} (h : inW lo hi n d) : lo ≤ d ∧ d ≤ hi := by
  unfold inW at h
  omega
/-- what stands around a look-up: the facts' lists, the whole feast, the days -/
structure Wd where
  F : TN → List Int
  top : Feast
  lo : Int
  hi : Int
structure Wd.Ok (W : Wd) : Prop where
  lo : -20000 ≤ W.lo
  hi : W.hi ≤ 2000000
  few : (uni (subs W.top) W.lo W.hi).length ≤ 10000000
abbrev Wd.U (W : Wd) : List NestedKey := uni (subs W.top) W.lo W.hi
def spLook (P : Program) (w : World) (W : Wd) (n : Nat) : Sp := fun vs H Q _ => ∃ (a fa kn : Addr) (f : Feast) (d : Int) (es : List Ent), vs = [.ref a, .ref fa, .int d, .ref kn] ∧ W.Ok ∧ FAt H f a ∧ FactsAt H fa W.F ∧ KnAt P w H kn W.F W.U es ∧ f.ok ∧ f.deep ≤ n ∧ f ∈ subs W.top ∧ inW W.lo W.hi n d ∧
  ∀ (H' : Hp) (es' : List Ent), Kp kn H H' → KnAt P w H' kn W.F W.U es' → Q (.bl (bh W.F f d)) H'
abbrev sLIsDay : Stmt := top 31
abbrev sLFind : Stmt := top 32
abbrev pLook : List Str := ["_law_feast_here", "_law_facts", "_law_day", "_law_known"]
theorem scLIsDay : FnScope pLook pLook (defScope sLIsDay) := ⟨rfl, rfl, rfl, by decide +kernel, rfl, by decide +kernel, by decide +kernel⟩
abbrev nLFind : List Str := ["_law_feast_here", "_law_facts", "_law_day", "_law_known", "_law_back"]
theorem scLFind : FnScope nLFind pLook (defScope sLFind) := ⟨rfl, rfl, rfl, by decide +kernel, rfl, by decide +kernel, by decide +kernel⟩
section
variable {P : Program} {w : World} {K : PySem.W.Frag} {mg : Str → Option Value} {base : Heap} {W : Wd}
theorem ok_lIsDay {n k : Nat} {f gf : Addr} {fd fdf : FuncData} (FF : Fun K "_law_is_day" "_law_is_day" sLIsDay f fd) (hn7 : n ≤ 7)
    (Gf : FnOk P w K mg base CX0 k gf fdf pLook (spLook P w W n)) (bf : Binds K fdf pLook []) (kf : PySem.W.keepIn K (.ref gf) = true) (mf : mg "_law_find" = some (.ref gf)) :
    FnOk P w K mg base CX0 (k + 1) f fd pLook (spLook P w W n) := by
  refine FF.ok scLIsDay (fun vs H Q E h => ?_) (fun cdv A outer s H vs Q E hr h => ?_)
  · obtain ⟨a, fa, kn, f, d, es, rfl, _⟩ := h
    rfl
  · obtain ⟨a, fa, kn, f, d, es, rfl, hW, hF, hfa, hkn, hok, hdeep, hsub, hR, q⟩ := h
    refine ⟨_, pss_cons (ps_if (pt_cmpR (op_knot hr.units) (pe_tup (pa_cons (pv 0) (pa_cons (pv 2) pa_nil))) (pv 3) (by rfl))
        (pss_one (ps_asg (pe_call Gf hr (by rfl) mf kf bf .nil pass0 (pa_cons (pv 0) (pa_cons (pv 1) (pa_cons (pv 2) (pa_cons (pv 3) pa_nil))))) (pg_sub (pv 3) (pe_tup (pa_cons (pv 0) (pa_cons (pv 2) pa_nil))) (set_kn hr.units)))) pss_nil)
      (pss_one (ps_ret (pe_ix (ix_kn hr.units) (pv 3) (pe_tup (pa_cons (pv 0) (pa_cons (pv 2) pa_nil))) (fun _ _ => rfl)))), ?_⟩
    have hd7 : f.deep ≤ 7 := by omega
    -- the end: the entry is there
    have ret : ∀ (H1 : Hp) (es1 : List Ent), Kp kn H H1 → FAt H1 f a → KnAt P w H1 kn W.F W.U es1 → (∃ e ∈ es1, e.1 = f ∧ e.2.1 = d) →
        tRet (tOp (rKnGet P w) (tVar 3) (tTup (tCons (tVar 0) (tCons (tVar 2) tNil)))) { nx := fun _ H' => Q .non H', rt := Q } [some (.ref a), some (.ref fa), some (.int d), some (.ref kn)] H1 := fun H1 es1 kp hF1 h1 hin => by
      obtain ⟨t0, ht0⟩ := ent_at hin fun e he e1 e2 => by
        rw [(h1.vals e he).1, e1, e2]
      refine ⟨_, rfl, _, rfl, _, rfl, (by show 2 ≤ sizeLine; decide), fun t ht => ?_⟩
      have s1 : Same H1 (upd H1 t (.tup [.ref a, .int d])) := same_new ht
      exact ⟨t, kn, es1, f, d, t0, bh W.F f d, rfl, rfl, s1 _ _ h1.obj, (h1.same s1).keys, ⟨a, upd_same, hF1.same s1, hd7⟩, ht0, q _ es1 (kp.trans (Same.kp s1)) (h1.same s1)⟩
    refine ⟨_, rfl, _, rfl, (by show 2 ≤ sizeLine; decide), fun t ht => ?_⟩
    have s1 : Same H (upd H t (.tup [.ref a, .int d])) := same_new ht
    have hkn1 := hkn.same s1
    have hF1 := hF.same s1
    refine ⟨_, rfl, t, kn, es, f, d, rfl, rfl, hkn1.obj, hkn1.keys, ⟨a, upd_same, hF1, hd7⟩, _, rfl, ?_⟩
    cases hc : (atKey (es.map entH) (kd f d)).isSome with
    | true =>
      refine iteF ?_
      exact ret _ es (Same.kp s1) hF1 hkn1 (ent_some hc)
    | false =>
      refine iteT ⟨_, rfl, _, rfl, _, rfl, _, rfl, a, fa, kn, f, d, es, rfl, hW, hF1, hfa.same s1, hkn1, hok, hdeep, hsub, hR, fun H2 es2 kp2 hkn2 => ?_⟩
      have hF2 := hF1.kn hkn1.obj kp2
      refine ⟨_, rfl, _, rfl, _, rfl, (by show 2 ≤ sizeLine; decide), fun t2 ht2 => ?_⟩
      have s2 : Same H2 (upd H2 t2 (.tup [.ref a, .int d])) := same_new ht2
      have hkn3 := hkn2.same s2
      have hlen := hkn2.len
      have hfew : W.U.length ≤ 10000000 := hW.few
      refine ⟨t2, kn, es2, f, d, bh W.F f d, rfl, rfl, rfl, hkn3.obj, hkn3.keys, ⟨a, upd_same, hF2.same s2, hd7⟩, fun e he e1 e2 => by rw [(hkn2.vals e he).1, e1, e2], by rw [sizeLine_eq]; omega, fun es3 h3 nd3 hin => ?_⟩
      have kp3 : Kp kn H (upd (upd H2 t2 (.tup [.ref a, .int d])) kn (KnO P w kn es3)) := (Same.kp s1).trans (kp2.trans ((Same.kp s2).trans kp_upd))
      have mono3 : ∀ b xs, upd H2 t2 (.tup [.ref a, .int d]) b = some (.tup xs) → upd (upd H2 t2 (.tup [.ref a, .int d])) kn (KnO P w kn es3) b = some (.tup xs) := fun b xs e => kp_upd b _ (ne_of e hkn3.obj (kn_ne _ fun φ z => nomatch z)) e
      refine ret _ es3 kp3 ((hF2.same s2).mono mono3) ⟨upd_same, ?_, ?_, nd3⟩ hin
      · rcases h3 with rfl | rfl
        · exact hkn3.keys.mono mono3
        · intro e he
          rcases List.mem_append.mp he with he | he
          · exact (hkn3.keys e he).mono mono3
          · rw [List.mem_singleton.mp he]
            exact KeyAt.mono ⟨a, upd_same, hF2.same s2, hd7⟩ mono3
      · rcases h3 with rfl | rfl
        · exact hkn2.vals
        · intro e he
          rcases List.mem_append.mp he with he | he
          · exact hkn2.vals e he
          · rw [List.mem_singleton.mp he]
            exact ⟨rfl, uni_mem hsub hR.base.1 hR.base.2⟩
theorem ok_lFind {n : Nat} {ff gd g2 : Addr} {fd fdd fd2 : FuncData} (FF : Fun K "_law_find" "_law_find" sLFind ff fd)
    (Gd : FnOk P w K mg base CX0 (3 + 2 * n) gd fdd pLook (spLook P w W n)) (bd : Binds K fdd pLook []) (kd' : PySem.W.keepIn K (.ref gd) = true) (md : mg "_law_is_day" = some (.ref gd))
    (G2 : FnOk P w K mg base CX0 3 g2 fd2 ["_law_calendar_here", "_law_month", "_law_number", "_law_day"] spIsDate) (b2 : Binds K fd2 ["_law_calendar_here", "_law_month", "_law_number", "_law_day"] []) (k2 : PySem.W.keepIn K (.ref g2) = true) (m2 : mg "_law_is_date" = some (.ref g2))
    (mi : mg "int" = none) (mr : mg "range" = none) :
    FnOk P w K mg base CX0 (3 + 2 * n + 1) ff fd pLook (spLook P w W (n + 1)) := by
  refine FF.ok scLFind (fun vs H Q E h => ?_) (fun cdv A outer s H vs Q E hr h => ?_)
  · obtain ⟨a, fa, kn, f, d, es, rfl, _⟩ := h
    rfl
  · obtain ⟨a, fa, kn, f, d, es, rfl, hW, hF, hfa, hkn, hok, hdeep, hsub, hR, q⟩ := h
    have hu := hu_of hr
    have r1 := hR.base.1
    have r2 := hR.base.2
    have w1 := hW.lo
    have w2 := hW.hi
    have hR0 : inW W.lo W.hi n d := hR.sub (by omega) (by omega)
    obtain ⟨r, hh⟩ := hF.head
    refine ⟨_, pss_cons (ps_if (pt_cmpR op_eq (pe_ix ix_tup (pv 0) pe_int (fun _ _ => rfl)) pe_str (nomark _)) (pss_one (ps_ret (pe_cmpR op_eq (pe_op op_mod (pe_callTy call_int1 (by rfl) mi (by decide +kernel) (pa_cons (pe_op op_sub (pv 2) pe_int) pa_nil)) pe_int) (pe_ix ix_tup (pv 0) pe_int (fun _ _ => rfl)) (nomark _)))) pss_nil)
      (pss_cons (ps_if (pt_cmpR op_eq (pe_ix ix_tup (pv 0) pe_int (fun _ _ => rfl)) pe_str (nomark _)) (pss_one (ps_ret (pe_call G2 (hr.mono (by omega)) (by rfl) m2 k2 b2 .nil pass0 (pa_cons (pe_ix ix_tup (pv 0) pe_int (fun _ _ => rfl)) (pa_cons (pe_ix ix_tup (pv 0) pe_int (fun _ _ => rfl)) (pa_cons (pe_ix ix_tup (pv 0) pe_int (fun _ _ => rfl)) (pa_cons (pv 2) pa_nil))))))) pss_nil)
      (pss_cons (ps_if (pt_cmpR op_eq (pe_ix ix_tup (pv 0) pe_int (fun _ _ => rfl)) pe_str (nomark _)) (pss_one (ps_ret (pe_cmpR op_in_seq (pv 2) (pe_dget2 hu (pv 1) (pe_ix ix_tup (pv 0) pe_int (fun _ _ => rfl)) (pe_lst pa_nil) ⟨rfl, rfl, rfl, rfl⟩) (by rfl)))) pss_nil)
      (pss_cons (ps_if (pt_cmpR op_eq (pe_ix ix_tup (pv 0) pe_int (fun _ _ => rfl)) pe_str (nomark _)) (pss_one (ps_ret (pe_call Gd hr (by rfl) md kd' bd .nil pass0 (pa_cons (pe_ix ix_tup (pv 0) pe_int (fun _ _ => rfl)) (pa_cons (pv 1) (pa_cons (pe_op op_sub (pv 2) (pe_ix ix_tup (pv 0) pe_int (fun _ _ => rfl))) (pa_cons (pv 3) pa_nil))))))) pss_nil)
      (pss_cons (ps_if (pt_cmpR op_eq (pe_ix ix_tup (pv 0) pe_int (fun _ _ => rfl)) pe_str (nomark _)) (pss_one (ps_ret (pe_not (pe_call Gd hr (by rfl) md kd' bd .nil pass0 (pa_cons (pe_ix ix_tup (pv 0) pe_int (fun _ _ => rfl)) (pa_cons (pv 1) (pa_cons (pv 2) (pa_cons (pv 3) pa_nil)))))))) pss_nil)
      (pss_cons (ps_if (pt_cmpR op_eq (pe_ix ix_tup (pv 0) pe_int (fun _ _ => rfl)) pe_str (nomark _)) (pss_one (ps_ret (pe_and (pe_call Gd hr (by rfl) md kd' bd .nil pass0 (pa_cons (pe_ix ix_tup (pv 0) pe_int (fun _ _ => rfl)) (pa_cons (pv 1) (pa_cons (pv 2) (pa_cons (pv 3) pa_nil))))) (pe_one (pe_call Gd hr (by rfl) md kd' bd .nil pass0 (pa_cons (pe_ix ix_tup (pv 0) pe_int (fun _ _ => rfl)) (pa_cons (pv 1) (pa_cons (pv 2) (pa_cons (pv 3) pa_nil))))))))) pss_nil)
      (pss_cons (ps_if (pt_cmpR op_eq (pe_ix ix_tup (pv 0) pe_int (fun _ _ => rfl)) pe_str (nomark _)) (pss_one (ps_ret (pe_or (pe_call Gd hr (by rfl) md kd' bd .nil pass0 (pa_cons (pe_ix ix_tup (pv 0) pe_int (fun _ _ => rfl)) (pa_cons (pv 1) (pa_cons (pv 2) (pa_cons (pv 3) pa_nil))))) (pe_one (pe_call Gd hr (by rfl) md kd' bd .nil pass0 (pa_cons (pe_ix ix_tup (pv 0) pe_int (fun _ _ => rfl)) (pa_cons (pv 1) (pa_cons (pv 2) (pa_cons (pv 3) pa_nil))))))))) pss_nil)
      (pss_cons (ps_if (pt_not (pt_val (pe_call Gd hr (by rfl) md kd' bd .nil pass0 (pa_cons (pe_ix ix_tup (pv 0) pe_int (fun _ _ => rfl)) (pa_cons (pv 1) (pa_cons (pv 2) (pa_cons (pv 3) pa_nil))))))) (pss_one (ps_ret pe_bl)) pss_nil)
      (pss_cons (ps_for PassesOwn.never rfl (pi_range1 (by rfl) mr (pa_cons pe_int pa_nil)) (pg_name (i := 4) scLFind.nd rfl (.inl rfl))
        (pss_cons (ps_if (pt_val (pe_call Gd hr (by rfl) md kd' bd .nil pass0 (pa_cons (pe_ix ix_tup (pv 0) pe_int (fun _ _ => rfl)) (pa_cons (pv 1) (pa_cons (pe_op op_sub (pv 2) (pv 4)) (pa_cons (pv 3) pa_nil)))))) (pss_one (ps_ret pe_bl)) pss_nil)
        (pss_one (ps_if (pt_val (pe_call Gd hr (by rfl) md kd' bd .nil pass0 (pa_cons (pe_ix ix_tup (pv 0) pe_int (fun _ _ => rfl)) (pa_cons (pv 1) (pa_cons (pe_op op_sub (pe_op op_sub (pv 2) (pv 4)) pe_int) (pa_cons (pv 3) pa_nil)))))) (pss_one (ps_ret pe_bl)) pss_nil))))
      (pss_one (ps_ret pe_bl)))))))))), ?_⟩
    -- weekday
    refine ⟨_, rfl, a, _, 0, _, rfl, rfl, SqT.of hh, atI_nat (j := 0) rfl, rfl, _, rfl, ite2 (fun c => ?_) (fun c1 => ?_)⟩
    · obtain ⟨v, rfl⟩ := kw_wk c
      have hF : H a = some (.tup [.str "weekday", .int v]) := hF
      refine ⟨_, rfl, _, _, rfl, rfl, .inl ⟨_, rfl, _, _, rfl, rfl, (by show (0 : Int) < 7; decide), _, rfl, a, _, 1, .int v, rfl, rfl, SqT.of hF, atI_nat (j := 1) rfl, rfl, ?_⟩⟩
      have e : bh W.F (.wk v) d = decide (V.int ((d - 1) % 7) = V.int v) := bh_iff (by
        rw [dec_vint]
        exact decide_eq_true_iff)
      rw [← e]
      exact q H es (Kp.refl _ _) hkn
    -- date
    refine ⟨_, rfl, a, _, 0, _, rfl, rfl, SqT.of hh, atI_nat (j := 0) rfl, rfl, _, rfl, ite2 (fun c => ?_) (fun c2 => ?_)⟩
    · obtain ⟨j, m, k, rfl⟩ := kw_date c
      have hF : H a = some (.tup [.str "date", .str (cal j), .int m, .int k]) := hF
      obtain ⟨o1, o2, o3⟩ := hok
      refine ⟨_, rfl, a, _, 1, .str (cal j), rfl, rfl, SqT.of hF, atI_nat (j := 1) rfl, _, rfl, a, _, 2, .int m, rfl, rfl, SqT.of hF, atI_nat (j := 2) rfl, _, rfl, a, _, 3, .int k, rfl, rfl, SqT.of hF, atI_nat (j := 3) rfl, _, rfl, j, m, k, d, rfl, o1, o2, o3, by omega, by omega, fun b H1 hb s1 => ?_⟩
      have e : bh W.F (.date j m k) d = b := bh_iff hb
      rw [← e]
      exact q H1 es (Same.kp s1) (hkn.same s1)
    -- told
    refine ⟨_, rfl, a, _, 0, _, rfl, rfl, SqT.of hh, atI_nat (j := 0) rfl, rfl, _, rfl, ite2 (fun c => ?_) (fun c3 => ?_)⟩
    · obtain ⟨t, rfl⟩ := kw_told c
      have hF : H a = some (.tup [.str "told", .str (nm t)]) := hF
      obtain ⟨l1, l2, hfd, _⟩ := id hfa
      refine ⟨_, rfl, _, rfl, fa, rfl, .inl ⟨_, .inl hfd⟩, _, rfl, a, _, 1, .str (nm t), rfl, rfl, SqT.of hF, atI_nat (j := 1) rfl, Nat.zero_le _, fun p hp => ?_⟩
      obtain ⟨o, l, g, e, hl⟩ := (hfa.same (same_new hp)).get (K := K) upd_same t
      refine ⟨o, g, ?_⟩
      rw [e]
      refine ⟨l, _, rfl, .inl hl, rfl, flat_ints _, ?_⟩
      have e2 : bh W.F (.told t) d = inV (.int d) ((W.F t).map V.int) := bh_iff (in_ints d (W.F t))
      show Q (.bl (inV (.int d) ((W.F t).map V.int))) _
      rw [← e2]
      exact q _ es (Same.kp (same_new hp)) (hkn.same (same_new hp))
    -- shift
    refine ⟨_, rfl, a, _, 0, _, rfl, rfl, SqT.of hh, atI_nat (j := 0) rfl, rfl, _, rfl, ite2 (fun c => ?_) (fun c4 => ?_)⟩
    · obtain ⟨x, k, rfl⟩ := kw_shift c
      obtain ⟨b, hF, hx⟩ := (show ∃ b, H a = some (.tup [.str "shift", .ref b, .int k]) ∧ FAt H x b from hF)
      obtain ⟨o1, o2, o3⟩ := hok
      have hd : x.deep + 1 ≤ n + 1 := hdeep
      have xs : x ∈ subs W.top := subs_trans (List.mem_cons_of_mem _ (subs_self x)) hsub
      refine ⟨_, rfl, a, _, 1, .ref b, rfl, rfl, SqT.of hF, atI_nat (j := 1) rfl, _, rfl, _, rfl, _, rfl, a, _, 2, .int k, rfl, rfl, SqT.of hF, atI_nat (j := 2) rfl, d, k, rfl, rfl, _, rfl, ?_⟩
      exact ⟨b, fa, kn, x, d - k, es, rfl, hW, hx, hfa, hkn, o1, by omega, xs, hR.sub (by omega) (by omega), fun H1 es1 s1 k1 => q H1 es1 s1 k1⟩
    -- not
    refine ⟨_, rfl, a, _, 0, _, rfl, rfl, SqT.of hh, atI_nat (j := 0) rfl, rfl, _, rfl, ite2 (fun c => ?_) (fun c5 => ?_)⟩
    · obtain ⟨x, rfl⟩ := kw_no c
      obtain ⟨b, hF, hx⟩ := (show ∃ b, H a = some (.tup [.str "not", .ref b]) ∧ FAt H x b from hF)
      have hd : x.deep + 1 ≤ n + 1 := hdeep
      have xs : x ∈ subs W.top := subs_trans (List.mem_cons_of_mem _ (subs_self x)) hsub
      refine ⟨_, rfl, a, _, 1, .ref b, rfl, rfl, SqT.of hF, atI_nat (j := 1) rfl, _, rfl, _, rfl, _, rfl, b, fa, kn, x, d, es, rfl, hW, hx, hfa, hkn, hok, by omega, xs, hR0, fun H1 es1 s1 k1 => ⟨_, rfl, ?_⟩⟩
      have e : bh W.F (.no x) d = !bh W.F x d := bh_iff (by
        rw [Bool.not_eq_true', bh_false]
        exact Iff.rfl)
      rw [← e]
      exact q H1 es1 s1 k1
    -- and
    refine ⟨_, rfl, a, _, 0, _, rfl, rfl, SqT.of hh, atI_nat (j := 0) rfl, rfl, _, rfl, ite2 (fun c => ?_) (fun c6 => ?_)⟩
    · obtain ⟨x, y, rfl⟩ := kw_both c
      have hFF := hF
      obtain ⟨b1', b2', hF, hx, hy⟩ := (show ∃ b c, H a = some (.tup [.str "and", .ref b, .ref c]) ∧ FAt H x b ∧ FAt H y c from hF)
      obtain ⟨o1, o2⟩ := hok
      have hd : max x.deep y.deep + 1 ≤ n + 1 := hdeep
      have xs : x ∈ subs W.top := subs_trans (List.mem_cons_of_mem _ (List.mem_append_left _ (subs_self x))) hsub
      have ys : y ∈ subs W.top := subs_trans (List.mem_cons_of_mem _ (List.mem_append_right _ (subs_self y))) hsub
      refine ⟨_, rfl, a, _, 1, .ref b1', rfl, rfl, SqT.of hF, atI_nat (j := 1) rfl, _, rfl, _, rfl, _, rfl, b1', fa, kn, x, d, es, rfl, hW, hx, hfa, hkn, o1, by omega, xs, hR0, fun H1 es1 s1 k1 => ⟨_, rfl, ?_⟩⟩
      have hF1 := s1 a _ (ne_of hF hkn.obj (kn_ne _ fun φ z => nomatch z)) hF
      refine ite2 (fun t => ?_) (fun t => ?_)
      · refine ⟨_, rfl, a, _, 2, .ref b2', rfl, rfl, SqT.of hF1, atI_nat (j := 2) rfl, _, rfl, _, rfl, _, rfl, b2', fa, kn, y, d, es1, rfl, hW, hy.kn hkn.obj s1, hfa.kn hkn.obj s1, k1, o2, by omega, ys, hR0, fun H2 es2 s2 k2 => ?_⟩
        have e : bh W.F (.both x y) d = bh W.F y d := bh_iff (by
          rw [bh_true]
          exact ⟨fun z => ⟨bh_true.mp t, z⟩, fun z => z.2⟩)
        rw [← e]
        exact q _ es2 (s1.trans s2) k2
      · have e : bh W.F (.both x y) d = false := bh_false.mpr fun z => t (bh_true.mpr z.1)
        rw [← e]
        exact q _ es1 s1 k1
    -- or
    refine ⟨_, rfl, a, _, 0, _, rfl, rfl, SqT.of hh, atI_nat (j := 0) rfl, rfl, _, rfl, ite2 (fun c => ?_) (fun c7 => ?_)⟩
    · obtain ⟨x, y, rfl⟩ := kw_either c
      obtain ⟨b1', b2', hF, hx, hy⟩ := (show ∃ b c, H a = some (.tup [.str "or", .ref b, .ref c]) ∧ FAt H x b ∧ FAt H y c from hF)
      obtain ⟨o1, o2⟩ := hok
      have hd : max x.deep y.deep + 1 ≤ n + 1 := hdeep
      have xs : x ∈ subs W.top := subs_trans (List.mem_cons_of_mem _ (List.mem_append_left _ (subs_self x))) hsub
      have ys : y ∈ subs W.top := subs_trans (List.mem_cons_of_mem _ (List.mem_append_right _ (subs_self y))) hsub
      refine ⟨_, rfl, a, _, 1, .ref b1', rfl, rfl, SqT.of hF, atI_nat (j := 1) rfl, _, rfl, _, rfl, _, rfl, b1', fa, kn, x, d, es, rfl, hW, hx, hfa, hkn, o1, by omega, xs, hR0, fun H1 es1 s1 k1 => ⟨_, rfl, ?_⟩⟩
      have hF1 := s1 a _ (ne_of hF hkn.obj (kn_ne _ fun φ z => nomatch z)) hF
      refine ite2 (fun t => ?_) (fun t => ?_)
      · have e : bh W.F (.either x y) d = true := bh_true.mpr (.inl (bh_true.mp t))
        rw [← e]
        exact q _ es1 s1 k1
      · refine ⟨_, rfl, a, _, 2, .ref b2', rfl, rfl, SqT.of hF1, atI_nat (j := 2) rfl, _, rfl, _, rfl, _, rfl, b2', fa, kn, y, d, es1, rfl, hW, hy.kn hkn.obj s1, hfa.kn hkn.obj s1, k1, o2, by omega, ys, hR0, fun H2 es2 s2 k2 => ?_⟩
        have e : bh W.F (.either x y) d = bh W.F y d := bh_iff (by
          rw [bh_true]
          exact ⟨fun z => .inr z, fun z => z.resolve_left fun u => t (bh_true.mpr u)⟩)
        rw [← e]
        exact q _ es2 (s1.trans s2) k2
    -- first
    obtain ⟨x, y, rfl⟩ := kw_last c1 c2 c3 c4 c6 c7 c5
    obtain ⟨b1', b2', hF, hx, hy⟩ := (show ∃ b c, H a = some (.tup [.str "first", .ref b, .ref c]) ∧ FAt H x b ∧ FAt H y c from hF)
    obtain ⟨o1, o2⟩ := hok
    have hd : max x.deep y.deep + 1 ≤ n + 1 := hdeep
    have xs : x ∈ subs W.top := subs_trans (List.mem_cons_of_mem _ (List.mem_append_left _ (subs_self x))) hsub
    have ys : y ∈ subs W.top := subs_trans (List.mem_cons_of_mem _ (List.mem_append_right _ (subs_self y))) hsub
    refine ⟨_, rfl, a, _, 1, .ref b1', rfl, rfl, SqT.of hF, atI_nat (j := 1) rfl, _, rfl, _, rfl, _, rfl, b1', fa, kn, x, d, es, rfl, hW, hx, hfa, hkn, o1, by omega, xs, hR0, fun H1 es1 s1 k1 => ⟨_, rfl, ?_⟩⟩
    cases hb : bh W.F x d with
    | false =>
      refine iteT ?_
      have e : bh W.F (.first x y) d = false := bh_false.mpr fun z => bh_false.mp hb z.1
      show Q (.bl false) H1
      rw [← e]
      exact q _ es1 s1 k1
    | true =>
      have hx0 := bh_true.mp hb
      refine iteF ⟨_, rfl, (by decide), (by decide), for_range (lo := 0) (n := 401) (fun i σ H2 => ∃ (o : Option V) (es2 : List Ent), σ = [some (.ref a), some (.ref fa), some (.int d), some (.ref kn), o] ∧ Kp kn H H2 ∧ KnAt P w H2 kn W.F W.U es2 ∧ LFst W.F x y d i) ⟨none, es1, rfl, s1, k1, lfst_zero⟩ ?_ ?_⟩
      · rintro i σ H2 hi ⟨o, es2, rfl, s2, k2, hP⟩
        have ei : d - (0 + (i : Int)) = d - (i : Int) := by omega
        have hF2 := s2 a _ (ne_of hF hkn.obj (kn_ne _ fun φ z => nomatch z)) hF
        refine ⟨_, rfl, a, _, 2, .ref b2', rfl, rfl, SqT.of hF2, atI_nat (j := 2) rfl, _, rfl, _, rfl, _, rfl, _, _, rfl, rfl, _, rfl, b2', fa, kn, y, d - (0 + (i : Int)), es2, rfl, hW, hy.kn hkn.obj s2, hfa.kn hkn.obj s2, k2, o2, by omega, ys, hR.sub (by omega) (by omega), fun H3 es3 s3 k3 => ⟨_, rfl, ?_⟩⟩
        have s23 := s2.trans s3
        refine ite2 (fun t => ?_) (fun t => ?_)
        · have t := bh_true.mp t
          rw [ei] at t
          have e : bh W.F (.first x y) d = true := bh_true.mpr (lfst_here hP (by omega) hx0 t)
          show Q (.bl true) H3
          rw [← e]
          exact q _ es3 s23 k3
        · have t : ¬ holds W.F y (d - (i : Int)) := fun z => t (bh_true.mpr (by rw [ei]; exact z))
          have hF3 := s23 a _ (ne_of hF hkn.obj (kn_ne _ fun φ z => nomatch z)) hF
          refine ⟨_, rfl, a, _, 1, .ref b1', rfl, rfl, SqT.of hF3, atI_nat (j := 1) rfl, _, rfl, _, rfl, _, rfl, _, _, rfl, rfl, _, _, rfl, rfl, _, rfl, b1', fa, kn, x, d - (0 + (i : Int)) - 1, es3, rfl, hW, hx.kn hkn.obj s23, hfa.kn hkn.obj s23, k3, o1, by omega, xs, hR.sub (by omega) (by omega), fun H4 es4 s4 k4 => ⟨_, rfl, ?_⟩⟩
          have s34 := s23.trans s4
          refine ite2 (fun u => ?_) (fun u => ?_)
          · have u := bh_true.mp u
            rw [ei] at u
            have e : bh W.F (.first x y) d = false := bh_false.mpr (lfst_stop hP t u)
            show Q (.bl false) H4
            rw [← e]
            exact q _ es4 s34 k4
          · exact ⟨_, es4, rfl, s34, k4, lfst_next hP t fun z => u (bh_true.mpr (by rw [ei]; exact z))⟩
      · rintro σ H2 ⟨o, es2, rfl, s2, k2, hP⟩
        have e : bh W.F (.first x y) d = false := bh_false.mpr (lfst_end hP)
        show Q (.bl false) H2
        rw [← e]
        exact q _ es2 s2 k2
end
end Al

set_option Elab.async false
set_option linter.all false
set_option maxRecDepth 100000
set_option maxHeartbeats 4000000
/-! repr of the facts; set of a list of ints. -/
namespace Al
open PySem PySem.Spec PyProof.Rows L2
def dInts (ns : List Int) : PyData := .list (ns.map PyData.int)
def fks : List PyData := [.str "full", .str "spring"]
def fvs (F : TN → List Int) : List PyData := [dInts (F .full), dInts (F .spring)]
def fdata (F : TN → List Int) : PyData := .dict [(.str "full", dInts (F .full)), (.str "spring", dInts (F .spring))]
/-- the lists are short, the days not too far away -/
def Small (F : TN → List Int) : Prop := ∀ t, (F t).length ≤ 10 ∧ ∀ x ∈ F t, x.natAbs < 10 ^ 12
theorem short_ints : ∀ {ns : List Int}, (∀ x ∈ ns, x.natAbs < 10 ^ 12) → PyData.leavesShortAll 13 (ns.map PyData.int) = true
  | [], _ => rfl
  | x :: r, h => by
    have h1 : (PyData.shown (.int x)).length ≤ 13 := by
      have e := int_text_length_le10 (a := x) (k := 12) (by decide) (h x List.mem_cons_self)
      show (Str.ofString (toString x)).length ≤ 13
      rw [PySem.ofString_length]
      exact e
    rw [List.map_cons, PyData.leavesShortAll, short_ints fun y hy => h y (List.mem_cons_of_mem _ hy), Bool.and_true]
    show decide ((PyData.shown (.int x)).length ≤ 13) = true
    exact decide_eq_true h1
theorem bulk_ints : ∀ ns : List Int, PyData.bulkAll (ns.map PyData.int) = ns.length
  | [] => rfl
  | x :: r => by
    rw [List.map_cons, PyData.bulkAll, bulk_ints r, List.length_cons]
    show 0 + 1 + r.length = r.length + 1
    omega
theorem shows_ints : ∀ {ns : List Int}, (∀ x ∈ ns, x.natAbs < 10 ^ 12) → PyData.showableAll (ns.map PyData.int) = true
  | [], _ => rfl
  | x :: r, h => by
    rw [List.map_cons, PyData.showableAll, shows_ints fun y hy => h y (List.mem_cons_of_mem _ hy), Bool.and_true]
    show decide (x.natAbs.log2 < 1920) = true
    refine decide_eq_true ?_
    have h1 : x.natAbs < 2 ^ 40 := Nat.lt_trans (h x List.mem_cons_self) (by decide)
    exact Nat.lt_trans (PySem.Flt.log2_lt_of (by decide) h1) (by decide)
theorem nodict_ints : ∀ ns : List Int, PyData.hasDictAll (ns.map PyData.int) = false
  | [] => rfl
  | x :: r => by
    rw [List.map_cons, PyData.hasDictAll, nodict_ints r]
    rfl
theorem reads_ints {h : Heap} : ∀ {ns : List Int} {its : List Value}, Vals (ns.map V.int) its → ∃ as, ReadsAll h its (ns.map PyData.int) as
  | [], _, r => by
    cases r
    exact ⟨_, .nil⟩
  | x :: ns, _, r => by
    cases r with
    | cons r1 r2 =>
      obtain ⟨t, rfl⟩ := r1
      obtain ⟨as, z⟩ := reads_ints (h := h) r2
      exact ⟨_, .cons (.int x t) z⟩
theorem kv_two {k1 k2 : Key} {x1 x2 : V} : ∀ {vs : List (Key × Value)}, KV [(k1, x1), (k2, x2)] vs → ∃ u1 u2, vs = [(k1, u1), (k2, u2)] ∧ RelV x1 u1 ∧ RelV x2 u2
  | [(_, _), (_, _)], .cons ⟨e1, r1⟩ (.cons ⟨e2, r2⟩ .nil) => by
    cases e1
    cases e2
    exact ⟨_, _, rfl, r1, r2⟩
theorem pairs_two {P : Program} {w : World} {k1 k2 : Key} {u1 u2 : Value} : ∀ {el : List DictEntry}, Pairs (mixKind P w) el [(k1, u1), (k2, u2)] → ∃ d1 d2, el = [d1, d2] ∧ keyIs k1 d1.key = true ∧ d1.val = u1 ∧ keyIs k2 d2.key = true ∧ d2.val = u2
  | [d1, d2], .cons p1 p2 (.cons p3 p4 .nil) => ⟨d1, d2, rfl, p1, p2, p3, p4⟩
section
variable {X : Cx}
theorem reads_list {pins : List (Addr × Obj)} {σ : L2.St} {H : Hp} {s : Shared} {l : Addr} {ns : List Int} (I : Inv X pins σ H s) (h : H l = some (.lst (ns.map V.int))) : ∃ as, Reads s.heap (.ref l) (dInts ns) as := by
  obtain ⟨z, its, n, r, e⟩ := (show ObjOk X.prog X.w H s.heap l (.lst (ns.map V.int)) from I.hok l _ h)
  obtain ⟨as, q⟩ := reads_ints (h := s.heap) r
  exact ⟨_, .list e rfl rfl (by simpa using q)⟩
theorem fits_facts {F : TN → List Int} (h : Small F) : (fdata F).shown.length ≤ sizeLine := by
  have h1 := h .full
  have h2 := h .spring
  refine PyData.shown_fits_bulk (B := 13) (by decide) (by decide) ?_ ?_
  · show (PyData.leavesShort 13 (.str "full") && PyData.leavesShortAll 13 ((F .full).map PyData.int) && (PyData.leavesShort 13 (.str "spring") && PyData.leavesShortAll 13 ((F .spring).map PyData.int) && true)) = true
    rw [short_ints h1.2, short_ints h2.2]
    decide +kernel
  · show PyData.bulk (.str "full") + PyData.bulkAll ((F .full).map PyData.int) + 2 + (PyData.bulk (.str "spring") + PyData.bulkAll ((F .spring).map PyData.int) + 2 + 0) ≤ 2 ^ 20
    rw [bulk_ints, bulk_ints]
    have e1 : PyData.bulk (.str "full") = 4 := by decide +kernel
    have e2 : PyData.bulk (.str "spring") = 6 := by decide +kernel
    rw [e1, e2]
    omega
def rRepr : List V → Hp → VK → Prop := fun vs H Q => ∃ (fa : Addr) (F : TN → List Int), vs = [.ref fa] ∧ FactsAt H fa F ∧ Small F ∧ Q (.str (fdata F).shown) H
theorem cr_repr (hg : X.A.guards = some []) (hu : X.A.units + 64 < cLine) : CallR X (.builtin "repr") rRepr := by
  intro pins s σ H xs us Q I r h
  obtain ⟨fa, F, rfl, hfa, hsm, q⟩ := h
  obtain ⟨u, rfl, ru⟩ := vals1 r
  cases ru
  obtain ⟨l1, l2, h1, h2, h3, _⟩ := hfa
  obtain ⟨zz, hsys, vs, rel, o, es, ep, e1, e2, e3, e4, e5, e6⟩ := dk_of I.hok h1
  -- the entries
  obtain ⟨as1, R1⟩ := reads_list I h2
  obtain ⟨as2, R2⟩ := reads_list I h3
  have keys : ∃ as, ReadsAll s.heap (es.toList.map (·.key)) fks as ∧ ∃ bs, ReadsAll s.heap (es.toList.map (·.val)) (fvs F) bs := by
    obtain ⟨u1, u2, rfl, va, vb⟩ := kv_two rel
    obtain ⟨d1, d2, hel, p1, p2, p3, p4⟩ := pairs_two e5
    rw [hel]
    have v1 : u1 = Value.ref l1 := va
    have v2 : u2 = Value.ref l2 := vb
    rcases keyIs_shape p1 with ⟨i, t, x1, x2⟩ | ⟨x, t, x1, x2⟩
    · cases x1
    · rcases keyIs_shape p3 with ⟨i', t', y1, y2⟩ | ⟨x', t', y1, y2⟩
      · cases y1
      · have x1 := Sum.inr.inj x1
        have y1 := Sum.inr.inj y1
        subst x1
        subst y1
        have A1 : ReadsAll s.heap [d1.key, d2.key] fks ([] ++ ([] ++ [])) := by
          rw [x2, y2]
          exact .cons (.str _ _) (.cons (.str _ _) .nil)
        have A2 : ReadsAll s.heap [d1.val, d2.val] (fvs F) (as1 ++ (as2 ++ [])) := by
          rw [p2, p4, v1, v2]
          exact .cons R1 (.cons R2 .nil)
        exact ⟨_, A1, _, A2⟩
  obtain ⟨as, RK, bs, RV⟩ := keys
  have RD : Reads s.heap (.ref fa) (fdata F) (fa :: as ++ bs) := .dict e1 e2.1 e3 RK RV
  have hz := fits_facts hsm
  have hz' : (dictText (PyData.shownKv [(.str "full", dInts (F .full)), (.str "spring", dInts (F .spring))])).length ≤ sizeLine := hz
  obtain ⟨b1, hb1, k1⟩ := ReprAllK.of_readsAll (prog := X.prog) (w := X.w) RK (by rfl) (fun z => Bool.noConfusion (show false = true from z)) (fun t ht => let ⟨p, hp, hl⟩ := PyData.shownKv_key_le [(.str "full", dInts (F .full)), (.str "spring", dInts (F .spring))] t ht; Nat.le_trans hl (Nat.le_trans (dictText_mem_le hp) hz'))
  obtain ⟨b2, hb2, k2⟩ := ReprAllK.of_readsAll (prog := X.prog) (w := X.w) RV (by
    show (PyData.showableAll ((F .full).map PyData.int) && (PyData.showableAll ((F .spring).map PyData.int) && true)) = true
    rw [shows_ints (hsm .full).2, shows_ints (hsm .spring).2]
    rfl) (fun z => by
    have z : (PyData.hasDictAll ((F .full).map PyData.int) || (PyData.hasDictAll ((F .spring).map PyData.int) || false)) = true := z
    rw [nodict_ints, nodict_ints] at z
    exact Bool.noConfusion z) (fun t ht => let ⟨p, hp, hl⟩ := PyData.shownKv_val_le [(.str "full", dInts (F .full)), (.str "spring", dInts (F .spring))] t ht; Nat.le_trans hl (Nat.le_trans (dictText_mem_le hp) hz'))
  have hb : ReadAtMost s.heap (PyData.depthKv [(.str "full", dInts (F .full)), (.str "spring", dInts (F .spring))]) (b1 ++ b2) := (hb1.mono (PyData.depthAll_keys_le [(.str "full", dInts (F .full)), (.str "spring", dInts (F .spring))])).append (hb2.mono (PyData.depthAll_vals_le [(.str "full", dInts (F .full)), (.str "spring", dInts (F .spring))]))
  have hna : fa ∉ b1 ++ b2 := not_mem_of_deeper RD (by show PyData.depthKv _ < PyData.depthKv _ + 1; exact Nat.lt_succ_self _) hb
  have hE := ReprEntriesK.of_two es.toList _ _ (k1.more_le (fun b hb => List.mem_append_left b2 hb) (PyData.depthAll_keys_le [(.str "full", dInts (F .full)), (.str "spring", dInts (F .spring))])) (k2.more_le (fun b hb => List.mem_append_right b1 hb) (PyData.depthAll_vals_le [(.str "full", dInts (F .full)), (.str "spring", dInts (F .spring))]))
  have hdep : PyData.depthKv [(.str "full", dInts (F .full)), (.str "spring", dInts (F .spring))] ≤ 10 := by
    have d1 : ∀ ns : List Int, PyData.depthAll (ns.map PyData.int) = 0 := fun ns => by
      induction ns with
      | nil => rfl
      | cons x r ih =>
        rw [List.map_cons, PyData.depthAll, ih]
        rfl
    show max (max 0 (PyData.depthAll ((F .full).map PyData.int) + 1)) (max (max 0 (PyData.depthAll ((F .spring).map PyData.int) + 1)) 0) ≤ 10
    rw [d1, d1]
    decide
  have eps : dictText (List.zipWith (fun k v : Str => k ++ ": " ++ v) (PyData.shownAll fks) (PyData.shownAll (fvs F))) = (fdata F).shown := by
    show _ = dictText (PyData.shownKv [(.str "full", dInts (F .full)), (.str "spring", dInts (F .spring))])
    rw [PyData.shownKv_eq]
    rfl
  refine call_repr_slot (by omega) ⟨o, e1, e2.1⟩ PySem.F.slot_dict_repr ?_
  refine call_dict_reprK (h₀ := s.heap) e1 e2.1 e3 hsys hna hE hg (fun b _ => Clear.nil b) (by show X.A.units + 1 + _ < cLine; omega) (fun _ _ z => z) (fun h' u tk keep => ?_) (by rw [eps]; exact hz)
  exact ⟨_, _, rfl, .str (fdata F).shown, H, I.kept (t' := tk) keep, ⟨u, by rw [eps]⟩, q⟩
end
end Al

set_option Elab.async false
set_option linter.all false
set_option maxRecDepth 100000
set_option maxHeartbeats 4000000
/-! set of a list of ints, with its order known to the model. -/
namespace Al
open PySem PySem.Spec PyProof.Rows L2
/-- the new, empty set -/
abbrev set0 (w : World) : Obj := { cls := .type "set", dict := none, data := .set #[] 0 (.fresh 0 0 (!w.params.followText "set-order")) }
section
variable {P : Program} {w : World} {A : Around} {E : Value → Shared → Prop} {s : Shared}
theorem set_list_ints {l : Addr} {items : Array Value} (ns : List Int) {Q : Value → Shared → Prop} (hh : A.handled = none) (hl : s.heap.IsList l items) (hit : IntsAre items.toList ns) (hb : ns.length + 1 < scanBound)
    (k : ∀ (h' : Heap) (tk c : Nat), SetR w h' s.heap.objs.size (fun j => decide (j ∈ ns)) c → c ≤ ns.length → (∀ b o, s.heap.get? b = some o → h'.get? b = some o) → Q (.ref s.heap.objs.size) { s with heap := h', toks := tk }) :
    wpAny (model P w) A (call (.type "set") [.ref l]) Q E s := by
  have size : items.size = ns.length := by
    have q := IntsAre.length hit
    rw [Array.length_toList] at q
    exact q
  have vals : ∀ (i : Nat) (v : Value), items[i]? = some v → ∃ z t, ns[i]? = some z ∧ v = .int z t := fun i v hv => by
    have hi : i < ns.length := by
      rw [← size]
      exact (Array.getElem?_eq_some_iff.mp hv).1
    obtain ⟨t, e⟩ := PyProof.Rows.IntsAre.int_at hit i v (by rw [Array.getElem?_toList]; exact hv)
    refine ⟨ns[i], t, List.getElem?_eq_getElem hi, ?_⟩
    rw [e, List.getD_eq_getElem?_getD, List.getElem?_eq_getElem hi]
    rfl
  obtain ⟨c, tl, hmro⟩ := F.called_set.mro
  have f1 := F.called_set.made
  have f2 := F.called_set.sub
  have f3 := F.called_set.notType
  have f4 := F.called_set.canCreate
  have f5 := F.typeCall_set_1 (.ref l)
  refine wpAny_call (codeAny_of_tree ?_)
  show wpAny _ _ (callAny (.type "set") _) _ _ _
  refine wpAny_pure ⟨Code.quiet_builtin _ (by decide +kernel), codeAny_builtin F.entry_type_call ?_⟩
  rw [Around.under_plain (weight_type_call_type "set" [.ref l] []) rfl]
  repeat (any_goals (first | assumption | wp_step))
  refine codeAny_mono (code_set_led1 (.ref l) (E := E) (Q₁ := fun obj s₁ => obj = .ref s.heap.objs.size ∧ s₁ = { s with heap := s.heap.push (set0 w) }) ⟨rfl, rfl⟩) fun r s1 hr => ?_
  cases r with
  | error e => exact hr
  | ok fl =>
    cases fl with
    | ret obj =>
      obtain ⟨rfl, rfl⟩ := hr
      have at0 : (s.heap.push (set0 w)).get? s.heap.objs.size = some (set0 w) := Heap.get?_push_size _ rfl
      have isT : Shared.TypeIs { s with heap := s.heap.push (set0 w) } (.ref s.heap.objs.size) "set" := ⟨_, at0, rfl⟩
      have g1 := F.called_set.init.lookup
      have g2 := F.called_set.init.bind (.ref s.heap.objs.size)
      repeat (any_goals (first | assumption | wp_step))
      refine codeAny_mono (codeAny_call_builtin (R := wants (fun r s₂ => r = .none ∧ ∃ h' tk c, s₂ = { s with heap := h', toks := tk } ∧ SetR w h' s.heap.objs.size (fun j => decide (j ∈ ns)) c ∧ c ≤ ns.length ∧
          (∀ b o, s.heap.get? b = some o → h'.get? b = some o)) E) F.called_set.init.plain F.entry_set_init (check_set_init_1 isT ?_)) fun r2 s2 hr2 => ?_
      · obtain ⟨ol, hol, hcl, nl, hdl⟩ := hl
        obtain ⟨ocls, odict, odata, oslots⟩ := ol
        simp only at hcl hdl
        subst hcl
        subst hdl
        have hol' : (s.heap.push (set0 w)).get? l = some { cls := .type "list", dict := odict, data := .seq items nl, slots := oslots } := Heap.get?_push_of_some _ hol
        have n1 := F.sub_list_set
        have n2 := F.sub_list_frozenset
        have n3 : (Value.type "list" == Value.type "dict") = false := by decide
        have isL : (s.heap.push (set0 w)).IsList l items := ⟨_, hol', rfl, nl, rfl⟩
        unfold Builtin.«set.__init__» noKeywords Builtin.Frozenset.updateFrom
        generalize hPI : pyIter = PI
        wp_walk
        subst hPI
        refine wpAny_pyIter_list isL ?_
        refine wpAny_bind (wpAny_runValue ?_)
        have below : l < s.heap.objs.size := Heap.lt_size hol
        have quiet : A.in1.in1.in1.handled = none := by simp [hh]
        have apart : l ≠ (s.heap.push (set0 w)).objs.size := by
          rw [Heap.size_push]
          exact Nat.ne_of_lt (Nat.lt_succ_of_lt below)
        have off : s.heap.objs.size ∉ [(s.heap.push (set0 w)).objs.size, l] := by
          rw [Heap.size_push]
          simp only [List.mem_cons, List.mem_singleton, List.not_mem_nil, or_false, not_or]
          exact ⟨Nat.ne_of_lt (Nat.lt_succ_self _), Nat.ne_of_gt below⟩
        refine set_update_ints ((Walks.list quiet _ l apart items).toS) s.heap.objs.size off ns size hb vals (items.size - 0) 0 _ (by omega) (Nat.zero_le _) ⟨⟨_, Heap.get?_push_size _ rfl, rfl, rfl⟩, (isL.push _)⟩ ?first ?last
        case first => exact ⟨0, Nat.le_refl 0, setR_new_at (Heap.get?_push_of_some _ at0)⟩
        case last =>
          intro s3 c3 hm hc hS
          obtain ⟨h3, g3, d3, tk3, os3⟩ := s3
          have eg : g3 = s.gens := hm.gens
          have ed : d3 = s.drawn := hm.drawn
          have eo : os3 = s.os := hm.os
          subst eg
          subst ed
          subst eo
          show wpAny _ _ _ _ _ _
          refine wpAny_pure ?_
          show wpAny _ _ (ret Value.none) _ _ _
          rw [size] at hc
          refine wpAny_pure ⟨rfl, h3, tk3, c3, rfl, hS, hc, fun b o e => ?_⟩
          have b0 : b < s.heap.objs.size := Heap.lt_size e
          have b1 : b ≠ s.heap.objs.size := Nat.ne_of_lt b0
          have b2 : b ≠ (s.heap.push (set0 w)).objs.size := by
            rw [Heap.size_push]
            exact Nat.ne_of_lt (Nat.lt_succ_of_lt b0)
          exact hm.heap b o (by simp only [List.mem_cons, List.mem_singleton, List.not_mem_nil, or_false, not_or]; exact ⟨b1, b2⟩) (Heap.get?_push_of_some _ (Heap.get?_push_of_some _ e))
      · cases r2 with
        | error e => exact hr2
        | ok fl2 =>
          cases fl2 with
          | ret r =>
            obtain ⟨rfl, h3, tk, c3, rfl, hS, hc, keep⟩ := hr2
            repeat (any_goals (first | assumption | wp_step))
            exact k _ _ _ hS hc keep
          | _ => exact hr2.elim
    | _ => exact hr.elim
end
section
variable {X : Cx}
def rSetL (K : PySem.W.Frag) (w : World) : List V → Hp → VK → Prop := fun vs H Q => ∃ (a : Addr) (ns : List Int), vs = [.ref a] ∧ SqL K H a (ns.map V.int) ∧ ns.length ≤ 1000 ∧ ∀ (p : Addr) (c : Nat), c ≤ ns.length → H p = none → Q (.ref p) (upd H p (SetO w p (fun j => decide (j ∈ ns)) c))
theorem cr_setL (hc : X.calm = true) : CallR X (.type "set") (rSetL X.K X.w) := by
  intro pins s σ H xs us Q I r h
  obtain ⟨a, ns, rfl, hS, hlen, q⟩ := h
  obtain ⟨u, rfl, ru⟩ := vals1 r
  cases ru
  obtain ⟨its, rv, pl, _⟩ := I.list hS
  refine set_list_ints ns (I.ok.hd hc) pl.isList (by simpa using intsAre_of rv) (by show ns.length + 1 < 4096; omega) fun h' tk c hR hcl keep => ?_
  exact ⟨.ref _, _, I.laid (t' := tk) keep (Nat.le_refl _) (setO_new hR), rfl, q _ c hcl (I.hok.fresh (Nat.le_refl _))⟩
end
end Al

set_option Elab.async false
set_option linter.all false
set_option maxRecDepth 100000
set_option maxHeartbeats 4000000
/-! A def that is called where no repr is under way (the law itself), and the law's end by it. -/
namespace Al
open PySem PySem.Spec PyProof.Rows L2
section
variable {P : Program} {w : World} {K : PySem.W.Frag} {mg : Str → Option Value}
/-- a def's promise, kept where no repr is under way -/
def FnG (P : Program) (w : World) (K : PySem.W.Frag) (mg : Str → Option Value) (base : Heap) (k : Nat) (f : Addr) (fd : FuncData) (ps : List Str) (sp : Sp) : Prop :=
  ∀ (A : Around) (outer : List Env) (s : Shared) (H : Hp) (args : Args) (us : List Value) (vs : List V) (Q : VK) (E : XK), A.guards = some [] → Room k A → Env0 P w K mg base A outer s H → BindsTo s fd args (ps.zip us) → Vals vs us → sp vs H Q E →
    codeAny (model P w) A (.call (.ref f) args) (CR CX0 outer P w H s Q E) s
theorem Fun.okG {base : Heap} {x qual : Str} {st : Stmt} {f : Addr} {fd : FuncData} {N ps : List Str} {k : Nat} {sp : Sp} (F : Fun K x qual st f fd) (S : FnScope N ps (defScope st)) (len : ∀ vs H Q E, sp vs H Q E → vs.length = ps.length)
    (body : ∀ (cdv : Value) (A : Around) (outer : List Env) (s : Shared) (H : Hp) (vs : List V) (Q : VK) (E : XK), A.guards = some [] → Room k (A.deeper (envOfC qual (defScope st) s.heap.objs.size f cdv)) → sp vs H Q E →
      ∃ t, PSs (cxOf CX0 P w K mg base N qual (defScope st) f cdv A outer s H E).nox (defBody st) t ∧ t { nx := fun _ H' => Q .non H', rt := Q } (start N vs) H) : FnG P w K mg base (k + 1) f fd ps sp := by
  obtain ⟨oc, od, kV, doc, pm, an, cdv, ct, osl, rfl, lk, hcd⟩ := F.ex
  intro A outer s H args us vs Q E hg hr e0 hb r hsp
  have hl := len _ _ _ _ hsp
  have kin : K.In s.heap := e0.mod.kin.keeps fun b o e => (e0.bs b o e).1
  have nolim : s.heap.NoLimit := e0.mod.nolimit.keeps fun b o e => (e0.bs b o e).1
  refine codeAny_call_function hr.depth (kin _ _ lk) rfl S.co S.gen rfl (PySem.W.codeRec_of kin hcd) (hb _ _ _ _ ?_)
  refine wpAny_newFunctionEnv_cells S.kind (fun ⟨n, v⟩ hy => ?_) fun env he s1 x => ?_
  · rcases S.par n (List.of_mem_zip hy).1 with q | q
    · exact .inl q
    · exact .inr ⟨q, PySem.W.cellsFrom_some _ _ _ (.inl q)⟩
  · subst he
    refine ⟨nolim.keeps x.toInCall.keep, codeAny_func ?_⟩
    obtain ⟨t, ht, hq⟩ := body cdv A outer s H vs Q E hg (hr.deeper _) hsp
    have I := inv_start (CX := CX0) (E := E) S hr.hd e0 hl r x
    refine wpAny_mono (ht.nox.run [] s1 (start N vs) H _ I hq) (fun fl s' hs => ?_) fun e s' hs => hs
    cases fl with
    | ret u =>
      obtain ⟨v, σ', H', J, rv, q⟩ := hs
      exact ⟨v, H', J.os, J.bare, J.base, J.hok, rv, q⟩
    | next =>
      obtain ⟨σ', H', J, q⟩ := hs
      exact ⟨.non, H', J.os, J.bare, J.base, J.hok, rfl, q⟩
    | brk =>
      obtain ⟨_, _, _, q⟩ := hs
      exact q.elim
    | cont =>
      obtain ⟨_, _, _, q⟩ := hs
      exact q.elim
/-- from the heap behind the top, by an abstract heap in which at most the script is tracked -/
theorem law_core {mb : Str → Option Value} {k : Nat} {fa a : Addr} {fd : FuncData} {x : Str} {sp : Sp} {s1 : Shared} {vs : List Value} {H : Hp}
    (kin : K.In s1.heap) (gl : s1.heap.Ns mainGlobals mg) (bl : s1.heap.Ns builtinsNs mb) (bb : ∀ x : Str, x ≠ "__name__" → mb x = bootBuiltins x) (lim : s1.heap.NoLimit) (gens : s1.gens = #[])
    (ha : s1.heap.get? a = some { cls := .type "list", data := .seq vs.toArray }) (hr : Room k callerA)
    (F : ∀ base : Heap, K.In base → base.Ns mainGlobals mg → FnG P w K mg base k fa fd [x] sp) (hbind : ∀ (s : Shared) (u : Value), BindsTo s fd ⟨[u], []⟩ [(x, u)])
    (only : Only H) (hsp : sp [.ref a] H (fun v _ => v = .bl true) fun _ _ _ => False) (ok : HOk P w H s1.heap) (hA : ∀ b, H b ≠ none → b = a) (hK : H a ≠ none → K.lookup a = none) :
    codeAny (model P w) callerA (.call (.ref fa) ⟨[.ref a], []⟩) (fun r s' => r = .ok (.ret (.bool true)) ∧ OldK s1.heap s'.heap ∧ s'.os = s1.os ∧ AllBare s'.gens) s1 := by
  have free : ∀ {b : Addr}, b ≠ a → H b = none := fun {b} n => by
    cases q : H b with
    | none => rfl
    | some u => exact absurd (hA b (by rw [q]; simp)) n
  have dicts : ∀ {b : Addr} {m : Str → Option Value}, s1.heap.Ns b m → (hidT s1.heap H).Ns b m := fun {b m} ⟨o, es, ep, e, d, r⟩ => by
    refine ⟨o, es, ep, hidT_get e (free fun z => ?_), d, r⟩
    subst z
    rw [ha] at e
    cases e
    have d' : Data.seq vs.toArray _ = Data.dict es ep := d
    cases d'
  have kb : K.In (hidT s1.heap H) := fun b o e => hidT_get (kin b o e) (by
    by_cases n : b = a
    · subst n
      cases q : H b with
      | none => rfl
      | some u =>
        rw [hK (by rw [q]; simp)] at e
        cases e
    · exact free n)
  have md : Mod K mg (hidT s1.heap H) := ⟨kb, dicts gl, ⟨mb, dicts bl, bb⟩, let ⟨mc, q1, q2⟩ := lim; ⟨mc, dicts q1, q2⟩⟩
  have e0 : Env0 P w K mg (hidT s1.heap H) callerA [] s1 H :=
    ⟨rfl, md, fun b o e => of_hidT e, Nat.le_of_eq (hidT_size _ _), trivial, fun b hb => absurd (show b ∈ ([] : List Addr) from hb) (by simp), ok, .of_eq gens⟩
  refine codeAny_mono (F _ kb (dicts gl) callerA [] s1 H ⟨[.ref a], []⟩ [.ref a] [.ref a] _ _ rfl hr e0 (hbind s1 (.ref a)) (.cons rfl .nil) hsp) fun r s' h => ?_
  cases r with
  | error e => exact False.elim h
  | ok fl =>
    cases fl with
    | next => exact False.elim h
    | brk => exact False.elim h
    | cont => exact False.elim h
    | ret u =>
      obtain ⟨v, H', os, bare, un, ok', r', q⟩ := h
      have q' : v = .bl true := q
      subst q'
      obtain rfl : u = Value.bool true := r'
      refine ⟨rfl, OldK.of_keep fun b o e => ?_, os, bare⟩
      rcases only b with z | ⟨ob, xs, z⟩
      · exact un.keep b o e z (fun y => absurd (show b ∈ ([] : List Addr) from y) (by simp)) (by simp)
      · obtain ⟨e1, _⟩ := ok b _ z
        obtain ⟨e2, _⟩ := ok' b _ (un.frzs b ob _ z)
        rw [e] at e1
        cases e1
        exact e2
end
theorem walkG {l : PySem.W.OpenLaw} {n k : Nat} {q : Program} {loose : List Str} {XP : (Str → Option Value) → Heap → Prop} {YP : World → Heap → Prop} {d : DefRec} {K : Params → PySem.W.Frag} {sp : PySem.W.Frag → Sp} {x : Str}
    (hn : l.most = some n) (hn2 : n ≤ sizeLine) (hdf : d.params.defaults = []) (hr : Room k callerA)
    (hY : ∀ (w : World) (h : Heap), YP w h → (K w.params).In h)
    (F : ∀ (w : World) (mg : Str → Option Value) (fa : Addr) (h : Heap), (K w.params).In h → h.Ns mainGlobals mg → mg d.name = some (.ref fa) →
      ∃ fd : FuncData, (∀ (s : Shared) (u : Value), BindsTo s fd ⟨[u], []⟩ [(x, u)]) ∧
        ∀ base : Heap, (K w.params).In base → base.Ns mainGlobals mg → FnG l.prog w (K w.params) mg base k fa fd [x] (sp (K w.params)))
    (hsp : ∀ (K : PySem.W.Frag) (H : Hp) (a : Addr) (ns : List Int), ns.length ≤ n → SqL K H a (ns.map V.int) → sp K [.ref a] H (fun v _ => v = .bl true) fun _ _ _ => False) :
    PySem.W.WalkO q loose XP YP l.row.toRowW d [] (fun f vs => PySem.call f vs) := by
  refine Att.attach_call hn hdf fun w s0 s1 mg mb fa o pm cd doc a vs ns G Y ho hd hcd hmg hobj hints hlen hg => ?_
  have kin := hY w _ Y
  obtain ⟨fd, hb, hF⟩ := F w mg fa _ kin G.T.g hmg
  have rv := vals_ints hints
  have lenV := hints.length
  have hz := Nat.le_trans hlen hn2
  cases hk : (K w.params).lookup a with
  | some o =>
    have e := kin a o hk
    rw [hobj] at e
    cases e
    refine law_core (H := fun _ => none) kin G.T.g G.T.b G.T.builtins G.T.nolimit hg hobj hr hF hb (fun _ => .inl rfl) (hsp _ _ a ns hlen (.inr ⟨_, vs.toArray, _, hk, rfl, rfl, rfl, by rw [List.size_toArray, lenV]; exact hz, by simpa using rv⟩)) (fun b u z => ?_) (fun b z => absurd rfl z) fun z => absurd rfl z
    have z' : (none : Option HO) = some u := z
    cases z'
  | none =>
    refine law_core (H := fun b => if b = a then some (.frz { cls := .type "list", data := .seq vs.toArray } (.lst (ns.map V.int))) else none) kin G.T.g G.T.b G.T.builtins G.T.nolimit hg hobj hr hF hb (fun b => ?_)
      (hsp _ _ a ns hlen (.inl (.inr ⟨{ cls := .type "list", data := .seq vs.toArray }, if_pos rfl⟩))) (fun b u z => ?_) (fun b z => ?_) fun _ => hk
    · by_cases c : b = a
      · exact .inr ⟨_, _, if_pos c⟩
      · exact .inl (if_neg c)
    · by_cases c : b = a
      · have z' := (if_pos c).symm.trans z
        cases z'
        subst c
        exact ⟨hobj, by rw [List.length_map]; exact hz, vs, _, rv, hobj⟩
      · have z' := (if_neg c).symm.trans z
        cases z'
    · by_cases c : b = a
      · exact c
      · exact absurd (if_neg c) z
end Al

set_option Elab.async false
set_option linter.all false
set_option maxRecDepth 100000
set_option maxHeartbeats 8000000
/-! The law's body. -/
namespace Al
open PySem PySem.Spec PyProof.Rows L2
abbrev sLaw : Stmt := top 33
abbrev nLaw : List Str := ["_law_script", "_law_state", "_law_begin", "_law_facts", "_law_word", "_law_many", "_law_feast_here", "_law_last", "_law_kept", "_law_known", "_law_due", "_law_day", "_law_found", "_law_k"]
theorem scLaw : FnScope nLaw ["_law_script"] (defScope sLaw) := ⟨rfl, rfl, rfl, by decide +kernel, rfl, by decide +kernel, by decide +kernel⟩
/-- a def that is called: where it stands, and its promise -/
structure Cl (P : Program) (w : World) (K : PySem.W.Frag) (mg : Str → Option Value) (base : Heap) (k : Nat) (x : Str) (ps : List Str) (sp : Sp) (f : Addr) (fd : FuncData) : Prop where
  ok : FnOk P w K mg base CX0 k f fd ps sp
  b : Binds K fd ps []
  kp : PySem.W.keepIn K (.ref f) = true
  g : mg x = some (.ref f)
theorem fn_all {ι : Type} {P : Program} {w : World} {K : PySem.W.Frag} {mg : Str → Option Value} {base : Heap} {k : Nat} {f : Addr} {fd : FuncData} {ps : List Str} {sp : ι → Sp} (G : ∀ i, FnOk P w K mg base CX0 k f fd ps (sp i)) : FnOk P w K mg base CX0 k f fd ps (fun vs H Q E => ∃ i, sp i vs H Q E) :=
  ⟨fun vs H Q E ⟨i, h⟩ => (G i).len vs H Q E h, fun A outer s H args us vs Q E hr e0 hb hv ⟨i, h⟩ => (G i).run A outer s H args us vs Q E hr e0 hb hv h⟩
def spIsDayA : Sp := fun vs H Q E => ∃ F, spIsDay F 3 vs H Q E
def spFeastDaysA : Sp := fun vs H Q E => ∃ F, spFeastDays F 3 vs H Q E
def spLookA (P : Program) (w : World) : Sp := fun vs H Q E => ∃ W, spLook P w W 3 vs H Q E
def spLaw (K : PySem.W.Frag) : Sp := fun vs H Q _ => ∃ (a : Addr) (ns : List Int), vs = [.ref a] ∧ SqL K H a (ns.map V.int) ∧ ns.length ≤ 63 ∧ ∀ H', Q (.bl true) H'
/-! ### what stands in the heap while the days are gone through -/
structure FactsX (H : Hp) (fa l1 l2 : Addr) (F : TN → List Int) : Prop where
  dk : H fa = some (.dK (fkv l1 l2))
  h1 : H l1 = some (.lst ((F .full).map V.int))
  h2 : H l2 = some (.lst ((F .spring).map V.int))
  e : F .non = []
theorem FactsX.at {H : Hp} {fa l1 l2 : Addr} {F : TN → List Int} (h : FactsX H fa l1 l2 F) : FactsAt H fa F := ⟨l1, l2, h.dk, h.h1, h.h2, h.e⟩
theorem FactsX.keep {H H' : Hp} {fa l1 l2 : Addr} {F : TN → List Int} (h : FactsX H fa l1 l2 F) (k1 : ∀ o, H fa = some o → H' fa = some o) (k2 : ∀ o, H l1 = some o → H' l1 = some o) (k3 : ∀ o, H l2 = some o → H' l2 = some o) : FactsX H' fa l1 l2 F :=
  ⟨k1 _ h.dk, k2 _ h.h1, k3 _ h.h2, h.e⟩
theorem stv_fkv {l l1 l2 : Addr} {a b c : Int} : HO.dK (fkv l1 l2) ≠ HO.dK (stv l a b c) := fun z => by
  injection z with z
  have := congrArg List.length z
  exact absurd this (by show ¬ (2 : Nat) = 4; decide)
theorem FactsX.kst {H H' : Hp} {fa l1 l2 st : Addr} {F : TN → List Int} (h : FactsX H fa l1 l2 F) (s : StAt H st) (k : Kp st H H') : FactsX H' fa l1 l2 F := by
  obtain ⟨l, ns, a, b, c, e1, e2, e3⟩ := s
  exact h.keep (fun o e => k _ _ (ne_of h.dk e1 stv_fkv) e) (fun o e => k _ _ (ne_of h.h1 e1 (fun z => nomatch z)) e) (fun o e => k _ _ (ne_of h.h2 e1 (fun z => nomatch z)) e)
/-- the state stands where another object that is neither a dict nor a list has changed -/
theorem StAt.kn {P : Program} {w : World} {H H' : Hp} {kn st : Addr} {es : List Ent} (h : StAt H st) (hk : H kn = some (KnO P w kn es)) (k : Kp kn H H') : StAt H' st := by
  obtain ⟨l, ns, a, b, c, e1, e2, e3⟩ := h
  exact ⟨l, ns, a, b, c, k _ _ (ne_of e1 hk (kn_ne _ fun φ z => nomatch z)) e1, k _ _ (ne_of e2 hk (kn_ne _ fun φ z => nomatch z)) e2, e3⟩
/-- .. or a list of ints -/
theorem StAt.lst {H : Hp} {d st : Addr} {ms ms' : List Int} (h : StAt H st) (hd : H d = some (.lst (ms.map V.int))) : StAt (upd H d (.lst (ms'.map V.int))) st := by
  obtain ⟨l, ns, a, b, c, e1, e2, e3⟩ := h
  have n1 : st ≠ d := ne_of e1 hd (fun z => nomatch z)
  by_cases q : l = d
  · subst q
    exact ⟨l, ms', a, b, c, by rw [upd_ne n1]; exact e1, upd_same, e3⟩
  · exact ⟨l, ns, a, b, c, by rw [upd_ne n1]; exact e1, by rw [upd_ne q]; exact e2, e3⟩
/-- all that the days' loop leans on -/
structure LH (P : Program) (w : World) (H : Hp) (st fa l1 l2 af kn due : Addr) (F : TN → List Int) (f : Feast) (U : List NestedKey) (es : List Ent) (L : List Int) : Prop where
  s : StAt H st
  x : FactsX H fa l1 l2 F
  f : FAt H f af
  k : KnAt P w H kn F U es
  d : H due = some (.lst (L.map V.int))
section
variable {P : Program} {w : World} {H H' : Hp} {st fa l1 l2 af kn due : Addr} {F : TN → List Int} {f : Feast} {U : List NestedKey} {es es' : List Ent} {L L' : List Int}
theorem LH.same (h : LH P w H st fa l1 l2 af kn due F f U es L) (k : Same H H') : LH P w H' st fa l1 l2 af kn due F f U es L :=
  ⟨h.s.same k, h.x.keep (fun o e => k _ _ e) (fun o e => k _ _ e) (fun o e => k _ _ e), h.f.same k, h.k.same k, k _ _ h.d⟩
theorem LH.look (h : LH P w H st fa l1 l2 af kn due F f U es L) (k : Kp kn H H') (kn' : KnAt P w H' kn F U es') : LH P w H' st fa l1 l2 af kn due F f U es' L := by
  have e := h.k.obj
  exact ⟨h.s.kn e k, h.x.keep (fun o z => k _ _ (ne_of h.x.dk e (kn_ne _ fun φ z => nomatch z)) z) (fun o z => k _ _ (ne_of h.x.h1 e (kn_ne _ fun φ z => nomatch z)) z) (fun o z => k _ _ (ne_of h.x.h2 e (kn_ne _ fun φ z => nomatch z)) z),
    h.f.kn e k, kn', k _ _ (ne_of h.d e (kn_ne _ fun φ z => nomatch z)) h.d⟩
theorem LH.draw (h : LH P w H st fa l1 l2 af kn due F f U es L) (k : Kp st H H') (s' : StAt H' st) : LH P w H' st fa l1 l2 af kn due F f U es L := by
  obtain ⟨kvs, e⟩ := h.s.dk
  have mono : ∀ b xs, H b = some (.tup xs) → H' b = some (.tup xs) := fun b xs z => k _ _ (ne_of z e (fun z => nomatch z)) z
  exact ⟨s', h.x.kst h.s k, h.f.mono mono, ⟨k _ _ (ne_of h.k.obj e (kn_ne (.dK kvs) (fun φ z => nomatch z)).symm) h.k.obj, h.k.keys.mono mono, h.k.vals, h.k.nd⟩, k _ _ (ne_of h.d e (fun z => nomatch z)) h.d⟩
theorem LH.put (h : LH P w H st fa l1 l2 af kn due F f U es L) (n1 : l1 ≠ due) (n2 : l2 ≠ due) : LH P w (upd H due (.lst (L'.map V.int))) st fa l1 l2 af kn due F f U es L' := by
  have mono : ∀ b xs, H b = some (.tup xs) → upd H due (.lst (L'.map V.int)) b = some (.tup xs) := fun b xs z => by
    rw [upd_ne (ne_of z h.d (fun z => nomatch z))]
    exact z
  refine ⟨h.s.lst h.d, h.x.keep (fun o z => ?_) (fun o z => ?_) (fun o z => ?_), h.f.mono mono, ⟨?_, h.k.keys.mono mono, h.k.vals, h.k.nd⟩, upd_same⟩
  · rw [upd_ne (ne_of h.x.dk h.d (fun z => nomatch z))]
    exact z
  · rw [upd_ne n1]
    exact z
  · rw [upd_ne n2]
    exact z
  · rw [upd_ne (ne_of h.k.obj h.d (kn_ne (.lst (L.map V.int)) (fun φ z => nomatch z)).symm)]
    exact h.k.obj
end
theorem eqv_ints : ∀ ns : List Int, PyData.eqvAll (ns.map PyData.int) (ns.map PyData.int) = true
  | [] => rfl
  | x :: r => by
    rw [List.map_cons, PyData.eqvAll, eqv_ints r, Bool.and_true]
    show (x == x) = true
    exact beq_self_eq_true x
theorem lay_ints : ∀ ns : List Int, PyData.canLayAll0 (ns.map PyData.int) = true
  | [] => rfl
  | x :: r => by
    rw [List.map_cons, PyData.canLayAll0, lay_ints r]
    rfl
theorem deep_ints : ∀ ns : List Int, PyData.depthAll (ns.map PyData.int) = 0
  | [] => rfl
  | x :: r => by
    rw [List.map_cons, PyData.depthAll, deep_ints r]
    rfl
theorem shaped_ints (ns : List Int) : SeqAt.shaped (dInts ns) = true := by
  show (PyData.canLayAll0 (ns.map PyData.int) && decide (PyData.depthAll (ns.map PyData.int) + 1 ≤ 64)) = true
  rw [lay_ints, deep_ints]
  rfl
theorem dp_ints {K : PySem.W.Frag} {H : Hp} : ∀ ns : List Int, DpAll K H (ns.map V.int) (ns.map PyData.int)
  | [] => .nil
  | x :: r => .cons (.int x) (dp_ints r)
end Al

set_option Elab.async false
set_option linter.all false
set_option maxRecDepth 100000
set_option maxHeartbeats 8000000
/-! The law, walked. -/
namespace Al
open PySem PySem.Spec PyProof.Rows L2
/-- a statement, a word for the state behind it, the rest -/
def tMid (t u : TS) : TS := fun D σ H => ∃ M : L2.St → Hp → Prop, t { D with nx := M } σ H ∧ ∀ σ' H', M σ' H' → u D σ' H'
theorem pss_mid {X : Cx} {st : Stmt} {more : List Stmt} {t u : TS} (h1 : PS X st t) (h2 : PSs X more u) : PSs X (st :: more) (tMid t u) := by
  refine ⟨fun pins s σ H D I ⟨M, hm, hu⟩ => wpAny_execs_cons (thn (h1.run pins s σ H { D with nx := M } I hm) fun f s1 q => ?_)⟩
  cases f with
  | next =>
    obtain ⟨σ', H', I', q⟩ := q
    exact h2.run pins s1 σ' H' D I' (hu σ' H' q)
  | ret v => exact q
  | brk => exact q
  | cont => exact q
/-- a list of days that may stand in the facts -/
def Good (ns : List Int) : Prop := ns.length ≤ 10 ∧ ∀ x ∈ ns, x.natAbs < 10 ^ 12
def mkF (n1 n2 : List Int) : TN → List Int
  | .full => n1
  | .spring => n2
  | .non => []
theorem small_mk {n1 n2 : List Int} (h1 : Good n1) (h2 : Good n2) : Small (mkF n1 n2) := fun t => match t with
  | .full => h1
  | .spring => h2
  | .non => ⟨Nat.zero_le _, fun x hx => absurd hx (List.not_mem_nil)⟩
/-- the facts' dict while it is filled -/
def Part (H : Hp) (fa : Addr) (i : Nat) : Prop :=
  (i = 0 ∧ H fa = some (.dK [])) ∨ (i = 1 ∧ ∃ l1 n1, H fa = some (.dK [(Sum.inr "full", .ref l1)]) ∧ H l1 = some (.lst (n1.map V.int)) ∧ Good n1) ∨
    (i = 2 ∧ ∃ l1 l2 n1 n2, H fa = some (.dK (fkv l1 l2)) ∧ H l1 = some (.lst (n1.map V.int)) ∧ H l2 = some (.lst (n2.map V.int)) ∧ Good n1 ∧ Good n2)
theorem Part.dk {H : Hp} {fa : Addr} {i : Nat} (h : Part H fa i) : ∃ kvs, H fa = some (.dK kvs) ∧ kvs.length ≤ 2 := by
  rcases h with ⟨_, e⟩ | ⟨_, l1, n1, e, _⟩ | ⟨_, l1, l2, n1, n2, e, _⟩
  · exact ⟨_, e, by decide⟩
  · exact ⟨_, e, by show 1 ≤ 2; decide⟩
  · exact ⟨_, e, by show 2 ≤ 2; decide⟩
theorem Part.keep {H H' : Hp} {fa : Addr} {i : Nat} (h : Part H fa i) (k1 : ∀ o, H fa = some o → H' fa = some o) (k2 : ∀ b xs, H b = some (.lst xs) → H' b = some (.lst xs)) : Part H' fa i := by
  rcases h with ⟨h1, e⟩ | ⟨h1, l1, n1, e, e1, g⟩ | ⟨h1, l1, l2, n1, n2, e, e1, e2, g1, g2⟩
  · exact .inl ⟨h1, k1 _ e⟩
  · exact .inr (.inl ⟨h1, l1, n1, k1 _ e, k2 _ _ e1, g⟩)
  · exact .inr (.inr ⟨h1, l1, l2, n1, n2, k1 _ e, k2 _ _ e1, k2 _ _ e2, g1, g2⟩)
theorem part_ne {H : Hp} {fa st : Addr} {i : Nat} (h : Part H fa i) (s : StAt H st) : fa ≠ st := by
  obtain ⟨kvs, e, hl⟩ := h.dk
  obtain ⟨l, ns, a, b, c, e1, _⟩ := s
  refine ne_of e e1 fun z => ?_
  injection z with z
  have z := congrArg List.length z
  have z : kvs.length = 4 := z
  omega
theorem Part.same {H H' : Hp} {fa : Addr} {i : Nat} (h : Part H fa i) (k : Same H H') : Part H' fa i := h.keep (fun o e => k _ _ e) fun b xs e => k _ _ e
theorem Part.kst {H H' : Hp} {fa st : Addr} {i : Nat} (h : Part H fa i) (s : StAt H st) (k : Kp st H H') : Part H' fa i := by
  obtain ⟨kvs, e⟩ := s.dk
  exact h.keep (fun o z => k _ _ (part_ne h s) z) fun b xs z => k _ _ (ne_of z e (fun z => nomatch z)) z
theorem lst_kst {H H' : Hp} {st d : Addr} {xs : List V} (s : StAt H st) (k : Kp st H H') (h : H d = some (.lst xs)) : H' d = some (.lst xs) := by
  obtain ⟨kvs, e⟩ := s.dk
  exact k _ _ (ne_of h e (fun z => nomatch z)) h
theorem fst_bounds {y : Int} (h1 : 1 ≤ y) (h2 : y ≤ 2400) : 1 ≤ fst false y ∧ fst false y ≤ 880000 := by
  unfold fst
  simp
  omega
/-- the words under which the facts are kept -/
def wd : Nat → Str
  | 0 => "full"
  | _ => "spring"
theorem Part.put {H : Hp} {fa q : Addr} {i : Nat} {ns : List Int} (h : Part H fa i) (hi : i < 2) (hq : H q = some (.lst (ns.map V.int))) (g : Good ns) :
    ∃ kvs, H fa = some (.dK kvs) ∧ kvs.length < sizeLine ∧ Part (upd H fa (.dK (putK kvs (Sum.inr (wd i) : Key) (.ref q)))) fa (i + 1) := by
  have nq : q ≠ fa := fun z => by
    subst z
    obtain ⟨kvs, e, _⟩ := h.dk
    rw [e] at hq
    injection hq with hq
    cases hq
  rcases h with ⟨rfl, e⟩ | ⟨rfl, l1, n1, e, e1, g1⟩ | ⟨rfl, _⟩
  · refine ⟨_, e, by decide, .inr (.inl ⟨rfl, q, ns, ?_, ?_, g⟩)⟩
    · rw [upd_same, putK_new _ rfl]
      rfl
    · rw [upd_ne nq]
      exact hq
  · have n1 : l1 ≠ fa := fun z => by
      subst z
      rw [e] at e1
      injection e1 with e1
      cases e1
    refine ⟨_, e, by show 1 < sizeLine; decide, .inr (.inr ⟨rfl, l1, q, _, ns, ?_, ?_, ?_, g1, g⟩)⟩
    · rw [upd_same, putK_new _ ((valV_neg ne_fs).trans rfl)]
      rfl
    · rw [upd_ne n1]
      exact e1
    · rw [upd_ne nq]
      exact hq
  · exact absurd hi (by decide)
theorem StAt.dput {H : Hp} {fa st : Addr} {kvs kvs' : List (Key × V)} (h : StAt H st) (e : H fa = some (.dK kvs)) (n : st ≠ fa) : StAt (upd H fa (.dK kvs')) st := by
  obtain ⟨l, ns, a, b, c, e1, e2, e3⟩ := h
  exact ⟨l, ns, a, b, c, by rw [upd_ne n]; exact e1, by rw [upd_ne (ne_of e2 e (fun z => nomatch z))]; exact e2, e3⟩
theorem wd_at {i : Nat} {x : V} (h : ([.str "full", .str "spring"] : List V)[i]? = some x) : i < 2 ∧ x = .str (wd i) := by
  match i, h with
  | 0, h => exact ⟨by decide, (Option.some.inj h).symm⟩
  | 1, h => exact ⟨by decide, (Option.some.inj h).symm⟩
  | (n + 2), h => cases h
/-- all that the law's body calls -/
structure LawEnv (P : Program) (w : World) (K : PySem.W.Frag) (mg : Str → Option Value) (base : Heap) (gS gFi gD gP gFe gLk gIs gId gFd : Addr) (dS dFi dD dP dFe dLk dIs dId dFd : FuncData) : Prop where
  CS : Cl P w K mg base 30 "_law_start" ["_law_script"] (spStart K) gS dS
  CFi : Cl P w K mg base 30 "_law_first" ["_law_calendar_here", "_law_year"] spFirst gFi dFi
  CD : Cl P w K mg base 30 "_law_draw" ["_law_state", "_law_bound"] spDraw gD dD
  CP : Cl P w K mg base 30 "_law_pick" ["_law_state", "_law_things"] spPick gP dP
  CFe : Cl P w K mg base 30 "_law_feast" ["_law_state", "_law_deep"] (spFeast 3) gFe dFe
  CLk : Cl P w K mg base 30 "_law_is_day" pLook (spLookA P w) gLk dLk
  CIs : Cl P w K mg base 30 "_law_is" ["_law_actual", "_law_due"] spIs gIs dIs
  CId : Cl P w K mg base 30 "is_day" ["feast", "facts", "day"] spIsDayA gId dId
  CFd : Cl P w K mg base 30 "feast_days" ["feast", "facts", "first", "last"] spFeastDaysA gFd dFd
  mr : mg "range" = none
  mso : mg "sorted" = none
  mse : mg "set" = none
  mre : mg "repr" = none
  mi : mg "isinstance" = none
  ml : mg "list" = none
/-- the context of the law's body -/
abbrev lawX (P : Program) (w : World) (K : PySem.W.Frag) (mg : Str → Option Value) (base : Heap) (ff : Addr) (cdv : Value) (A : Around) (outer : List Env) (s : Shared) (H : Hp) (E : XK) : Cx :=
  (cxOf CX0 P w K mg base nLaw "law" (defScope sLaw) ff cdv A outer s H E).nox
abbrev lawA (ff : Addr) (cdv : Value) (A : Around) (s : Shared) : Around := A.deeper (envOfC "law" (defScope sLaw) s.heap.objs.size ff cdv)
end Al

set_option Elab.async false
set_option linter.all false
set_option maxRecDepth 100000
set_option maxHeartbeats 8000000
namespace Al
open PySem PySem.Spec PyProof.Rows L2
section
variable {P : Program} {w : World} {K : PySem.W.Frag} {mg : Str → Option Value} {base : Heap} {ff gS gFi gD gP gFe gLk gIs gId gFd : Addr} {dS dFi dD dP dFe dLk dIs dId dFd : FuncData}
  {cdv : Value} {A : Around} {outer : List Env} {s : Shared} {H0 : Hp} {E : XK} {Q : VK}
/-- what is known when the days are gone through -/
structure DaysIn (f : Feast) (F : TN → List Int) (b e : Int) : Prop where
  ok : f.ok
  deep : f.deep ≤ 3
  small : Small F
  b1 : -19 ≤ b
  b2 : b ≤ 880060
  e1 : b ≤ e
  e2 : e ≤ b + 40
theorem law_days (C : LawEnv P w K mg base gS gFi gD gP gFe gLk gIs gId gFd dS dFi dD dP dFe dLk dIs dId dFd) (hgu : A.guards = some []) (hr : Room 30 (lawA ff cdv A s)) (q : ∀ H', Q (.bl true) H') :
    ∃ t, PSs (lawX P w K mg base ff cdv A outer s H0 E) ((defBody sLaw).drop 9) t ∧
      ∀ (a0 st fa af l1 l2 kn due : Addr) (F : TN → List Int) (f : Feast) (b e : Int) (H : Hp) (o4 o5 : Option V), DaysIn f F b e → l1 ≠ due → l2 ≠ due → LH P w H st fa l1 l2 af kn due F f (uni (subs f) (b - 5000) (b + 5000)) [] [] →
        t { nx := fun _ H' => Q .non H', rt := Q } [some (.ref a0), some (.ref st), some (.int b), some (.ref fa), o4, o5, some (.ref af), some (.int e), some (.str (fdata F).shown), some (.ref kn), some (.ref due), none, none, none] H := by
  have hu := hu_of hr
  refine ⟨_, (pss_cons (ps_for PassesOwn.never rfl (pi_range2 (by rfl) C.mr (pa_cons (pv 2) (pa_cons (pe_op op_add (pv 7) pe_int) pa_nil))) (pg_name (i := 11) scLaw.nd rfl (.inl rfl))
        (pss_cons (ps_set (i := 12) scLaw.nd rfl (.inl rfl) (pe_call C.CLk.ok hr (by rfl) C.CLk.g C.CLk.kp C.CLk.b .nil pass0 (pa_cons (pv 6) (pa_cons (pv 3) (pa_cons (pv 11) (pa_cons (pv 9) pa_nil))))))
        (pss_mid (ps_if (pt_val (pv 12)) (pss_one (ps_expr (pe_bm PySem.F.plainAttrs_list PySem.F.slot_list_append PySem.F.type_list_append mt_append (pv 10) (pa_cons (pv 11) pa_nil)))) pss_nil)
        (pss_one (ps_if (PW.pt (pw_and (pt_cmpR op_eq (pe_call C.CD.ok hr (by rfl) C.CD.g C.CD.kp C.CD.b .nil pass0 (pa_cons (pv 1) (pa_cons pe_int pa_nil))) pe_int (nomark _)) (pw_and1 (pt_not (pt_val (pe_call C.CIs.ok hr (by rfl) C.CIs.g C.CIs.kp C.CIs.b .nil pass0 (pa_cons (pe_call C.CId.ok hr (by rfl) C.CId.g C.CId.kp C.CId.b .nil pass0 (pa_cons (pv 6) (pa_cons (pv 3) (pa_cons (pv 11) pa_nil)))) (pa_cons (pv 12) pa_nil)))))))) (pss_one (ps_ret pe_bl)) pss_nil)))))
        (pss_cons (ps_set (i := 12) scLaw.nd rfl (.inl rfl) (pe_call C.CFd.ok hr (by rfl) C.CFd.g C.CFd.kp C.CFd.b .nil pass0 (pa_cons (pv 6) (pa_cons (pv 3) (pa_cons (pv 2) (pa_cons (pv 7) pa_nil))))))
        (pss_one (ps_ret (pe_and (pe_callB call_isi (by rfl) C.mi (by decide +kernel) (pa_cons (pv 12) (pa_cons (pe_bltn (v := .ty "list") (u := .type "list") (by rfl) C.ml (by decide +kernel) rfl) pa_nil))) (pe_and (pe_cmpR (op_eqD hr.units) (pv 12) (pv 10) (nomark _)) (pe_one (pe_cmpR op_eq (pe_callB (cr_repr hgu hr.units) (by rfl) C.mre (by decide +kernel) (pa_cons (pv 3) pa_nil)) (pv 8) (nomark _))))))))), ?_⟩
  intro a0 st fa af l1 l2 kn due F f b e H o4 o5 di n1 n2 hL
  obtain ⟨hok, hdeep, hsm, b1, b2, e1, e2⟩ := di
  have hW : Wd.Ok ⟨F, f, b - 5000, b + 5000⟩ := by
    refine ⟨by show -20000 ≤ b - 5000; omega, by show b + 5000 ≤ 2000000; omega, ?_⟩
    show (uni (subs f) (b - 5000) (b + 5000)).length ≤ 10000000
    rw [uni_len, show (b + 5000 - (b - 5000) + 1).toNat = 10001 by omega]
    have h1 := subs_len f
    have h2 : 2 ^ f.deep ≤ 2 ^ 3 := Nat.pow_le_pow_right (by decide) hdeep
    omega
  refine ⟨_, rfl, _, rfl, _, _, rfl, rfl, b, e + 1, rfl, ⟨by omega, by omega, by omega, by omega⟩, ?_⟩
  refine for_range (lo := b) (n := (e + 1 - b).toNat) (fun i σ H' => ∃ o11 o12 es, σ = [some (.ref a0), some (.ref st), some (.int b), some (.ref fa), o4, o5, some (.ref af), some (.int e), some (.str (fdata F).shown), some (.ref kn), some (.ref due), o11, o12, none] ∧
      LH P w H' st fa l1 l2 af kn due F f (uni (subs f) (b - 5000) (b + 5000)) es (dayList F f b i)) ⟨none, none, [], rfl, hL⟩ ?_ ?_
  · rintro i σ H1 hi ⟨o11, o12, es, rfl, hL1⟩
    have hin : inW (b - 5000) (b + 5000) 3 (b + (i : Int)) := by
      unfold inW
      omega
    have hir : inR 3 (b + (i : Int)) := by
      unfold inR
      omega
    refine ⟨_, rfl, _, rfl, _, rfl, _, rfl, ⟨F, f, b - 5000, b + 5000⟩, af, fa, kn, f, b + (i : Int), es, rfl, hW, hL1.f, hL1.x.at, hL1.k, hok, hdeep, subs_self f, hin, fun H2 es2 k2 kn2 => ?_⟩
    have hL2 := hL1.look k2 kn2
    refine ⟨fun σ H' => ∃ es, σ = [some (.ref a0), some (.ref st), some (.int b), some (.ref fa), o4, o5, some (.ref af), some (.int e), some (.str (fdata F).shown), some (.ref kn), some (.ref due), some (.int (b + (i : Int))), some (.bl (bh F f (b + (i : Int)))), none] ∧
      LH P w H' st fa l1 l2 af kn due F f (uni (subs f) (b - 5000) (b + 5000)) es (dayList F f b (i + 1)), ?_, ?_⟩
    · refine ⟨_, rfl, _, rfl, ite2 (fun g => ?_) (fun g => ?_)⟩
      · have len := dayList_len F f b i
        refine ⟨_, rfl, .inl ⟨rfl, _, SqL.of hL2.d⟩, _, rfl, due, _, _, rfl, rfl, hL2.d, by rw [List.length_map, sizeLine_eq]; omega, es2, rfl, ?_⟩
        have p := hL2.put (L' := dayList F f b (i + 1)) n1 n2
        rw [dayList_succ, if_pos g, List.map_append] at p
        rw [dayList_succ, if_pos g]
        exact p
      · refine ⟨es2, rfl, ?_⟩
        rw [dayList_succ, if_neg g, List.append_nil]
        exact hL2
    · rintro σ H3 ⟨es3, rfl, hL3⟩
      refine ⟨_, rfl, st, _, rfl, hL3.s, by decide, by decide, fun H4 z k4 st4 z0 z1 => ?_⟩
      have hL4 := hL3.draw k4 st4
      refine ⟨rfl, _, rfl, ite2 (fun g => ?_) (fun g => ?_)⟩
      · refine ⟨_, rfl, _, rfl, _, rfl, F, af, fa, f, b + (i : Int), rfl, hL4.f, hL4.x.at, hok, hdeep, hir, fun H5 s5 => ?_⟩
        refine ⟨_, rfl, bh F f (b + (i : Int)), bh F f (b + (i : Int)), rfl, _, rfl, ?_⟩
        rw [show decide (bh F f (b + (i : Int)) = bh F f (b + (i : Int))) = true from decide_eq_true rfl]
        exact iteF ⟨_, _, es3, rfl, hL4.same s5⟩
      · exact iteF ⟨_, _, es3, rfl, hL4⟩
  · rintro σ H1 ⟨o11, o12, es, rfl, hL1⟩
    refine ⟨_, rfl, _, rfl, _, rfl, _, rfl, F, af, fa, f, b, e, rfl, hL1.f, hL1.x.at, hok, hdeep, by unfold inR; omega, by unfold inR; omega, fun H2 p s2 hp => ?_⟩
    have hL2 := hL1.same s2
    refine ⟨_, rfl, _, _, _, _, true, rfl, .ty "list", .base (.lst hp), rfl, true, rfl, iteT ?_⟩
    refine ⟨_, rfl, _, rfl, dInts (dayList F f b (e + 1 - b).toNat), dInts (dayList F f b (e + 1 - b).toNat), .lst (SqL.of hp) (dp_ints _), .lst (SqL.of hL2.d) (dp_ints _), shaped_ints _, shaped_ints _, ?_⟩
    rw [show PyData.eqv (dInts (dayList F f b (e + 1 - b).toNat)) (dInts (dayList F f b (e + 1 - b).toNat)) = true from eqv_ints _]
    refine ⟨true, rfl, iteT ?_⟩
    refine ⟨_, rfl, fa, F, rfl, hL2.x.at, hsm, _, rfl, rfl, ?_⟩
    rw [show decide (V.str (fdata F).shown = V.str (fdata F).shown) = true from decide_eq_true rfl]
    exact q _
end
end Al

set_option Elab.async false
set_option linter.all false
set_option maxRecDepth 100000
set_option maxHeartbeats 8000000
namespace Al
open PySem PySem.Spec PyProof.Rows L2
section
variable {P : Program} {w : World} {K : PySem.W.Frag} {mg : Str → Option Value} {base : Heap} {ff gS gFi gD gP gFe gLk gIs gId gFd : Addr} {dS dFi dD dP dFe dLk dIs dId dFd : FuncData}
  {cdv : Value} {A : Around} {outer : List Env} {s : Shared} {H0 : Hp} {E : XK} {Q : VK}
theorem law_mids (C : LawEnv P w K mg base gS gFi gD gP gFe gLk gIs gId gFd dS dFi dD dP dFe dLk dIs dId dFd) (hgu : A.guards = some []) (hr : Room 30 (lawA ff cdv A s)) (q : ∀ H', Q (.bl true) H') :
    ∃ t, PSs (lawX P w K mg base ff cdv A outer s H0 E) ((defBody sLaw).drop 4) t ∧
      ∀ (a0 st fa : Addr) (b : Int) (H : Hp) (o4 o5 : Option V), -19 ≤ b → b ≤ 880060 → StAt H st → Part H fa 2 →
        t { nx := fun _ H' => Q .non H', rt := Q } [some (.ref a0), some (.ref st), some (.int b), some (.ref fa), o4, o5, none, none, none, none, none, none, none, none] H := by
  have hu := hu_of hr
  obtain ⟨tl, htl, rd⟩ := law_days (outer := outer) (H0 := H0) (E := E) C hgu hr q
  refine ⟨_, (pss_cons (ps_set (i := 6) scLaw.nd rfl (.inl rfl) (pe_call C.CFe.ok hr (by rfl) C.CFe.g C.CFe.kp C.CFe.b .nil pass0 (pa_cons (pv 1) (pa_cons (pe_call C.CP.ok hr (by rfl) C.CP.g C.CP.kp C.CP.b .nil pass0 (pa_cons (pv 1) (pa_cons (pe_lst (pa_cons pe_int (pa_cons pe_int (pa_cons pe_int (pa_cons pe_int (pa_cons pe_int pa_nil)))))) pa_nil))) pa_nil))))
        (pss_cons (ps_set (i := 7) scLaw.nd rfl (.inl rfl) (pe_op op_add (pv 2) (pe_call C.CD.ok hr (by rfl) C.CD.g C.CD.kp C.CD.b .nil pass0 (pa_cons (pv 1) (pa_cons (pe_call C.CP.ok hr (by rfl) C.CP.g C.CP.kp C.CP.b .nil pass0 (pa_cons (pv 1) (pa_cons (pe_lst (pa_cons pe_int (pa_cons pe_int pa_nil))) pa_nil))) pa_nil)))))
        (pss_cons (ps_set (i := 8) scLaw.nd rfl (.inl rfl) (pe_callB (cr_repr hgu hr.units) (by rfl) C.mre (by decide +kernel) (pa_cons (pv 3) pa_nil)))
        (pss_cons (ps_set (i := 9) scLaw.nd rfl (.inl rfl) pe_dnewN)
        (pss_cons (ps_set (i := 10) scLaw.nd rfl (.inl rfl) (pe_lst pa_nil))
        htl))))), ?_⟩
  intro a0 st fa b H o4 o5 b1 b2 st0 pt0
  rcases pt0 with ⟨z, _⟩ | ⟨z, _⟩ | ⟨_, l1, l2, n1, n2, e, e1, e2, g1, g2⟩
  · cases z
  · cases z
  have hx0 : FactsX H fa l1 l2 (mkF n1 n2) := ⟨e, e1, e2, rfl⟩
  have hsm := small_mk g1 g2
  generalize mkF n1 n2 = F at hx0 hsm
  -- the feast
  refine ⟨_, rfl, _, rfl, by decide, fun p hp => ⟨st, p, _, rfl, st0.same (same_new hp), upd_same, by decide, by decide, fun H1 x kp1 st1 hx => ?_⟩⟩
  have hx1 := (hx0.keep (fun o z => same_new hp _ _ z) (fun o z => same_new hp _ _ z) (fun o z => same_new hp _ _ z)).kst (st0.same (same_new hp)) kp1
  obtain ⟨k, rfl, k2⟩ : ∃ k : Nat, x = .int k ∧ k ≤ 2 := by
    simp only [List.mem_cons, List.mem_nil_iff, or_false] at hx
    rcases hx with rfl | rfl | rfl | rfl | rfl
    · exact ⟨0, rfl, by omega⟩
    · exact ⟨1, rfl, by omega⟩
    · exact ⟨1, rfl, by omega⟩
    · exact ⟨1, rfl, by omega⟩
    · exact ⟨2, rfl, by omega⟩
  refine ⟨st, k, rfl, st1, by omega, fun H2 af f kp2 st2 hf2 hok hdeep => ?_⟩
  have hx2 := hx1.kst st1 kp2
  -- the last day
  refine ⟨_, rfl, _, rfl, _, rfl, by decide, fun p2 hp2 => ⟨st, p2, _, rfl, st2.same (same_new hp2), upd_same, by decide, by decide, fun H3 y kp3 st3 hy => ?_⟩⟩
  have hx3 := (hx2.keep (fun o z => same_new hp2 _ _ z) (fun o z => same_new hp2 _ _ z) (fun o z => same_new hp2 _ _ z)).kst (st2.same (same_new hp2)) kp3
  have hf3 := (hf2.same (same_new hp2)).kp (st2.same (same_new hp2)) kp3
  obtain ⟨m, rfl, m1, m2⟩ : ∃ m : Int, y = .int m ∧ 0 < m ∧ m ≤ 40 := by
    simp only [List.mem_cons, List.mem_nil_iff, or_false] at hy
    rcases hy with rfl | rfl
    · exact ⟨2, rfl, by omega, by omega⟩
    · exact ⟨40, rfl, by omega, by omega⟩
  refine ⟨st, m, rfl, st3, m1, by omega, fun H4 z kp4 st4 z0 z1 => ⟨_, _, rfl, rfl, ?_⟩⟩
  have hx4 := hx3.kst st3 kp4
  have hf4 := hf3.kp st3 kp4
  -- the facts' text
  refine ⟨_, rfl, fa, F, rfl, hx4.at, hsm, ?_⟩
  -- what is known, what is due
  intro kn hkn
  refine ⟨by decide, fun due hdue => ?_⟩
  have s5 : Same H4 (upd H4 kn (KnO P w kn [])) := same_new hkn
  have s6 := s5.trans (same_new hdue (o := .lst []))
  have nk : kn ≠ due := ne_of_none upd_same hdue
  refine rd a0 st fa af l1 l2 kn due F f b (b + z) _ o4 o5 ⟨hok, by omega, hsm, b1, b2, by omega, by omega⟩ (ne_of_none (s5 _ _ hx4.h1) hdue) (ne_of_none (s5 _ _ hx4.h2) hdue) ⟨st4.same s6, hx4.keep (fun o z => s6 _ _ z) (fun o z => s6 _ _ z) (fun o z => s6 _ _ z), hf4.same s6, ⟨?_, fun e he => absurd he (List.not_mem_nil), fun e he => absurd he (List.not_mem_nil), List.nodup_nil⟩, upd_same⟩
  rw [upd_ne nk]
  exact upd_same
end
end Al

set_option Elab.async false
set_option linter.all false
set_option maxRecDepth 100000
set_option maxHeartbeats 8000000
namespace Al
open PySem PySem.Spec PyProof.Rows L2
section
variable {P : Program} {w : World} {K : PySem.W.Frag} {mg : Str → Option Value} {base : Heap} {ff gS gFi gD gP gFe gLk gIs gId gFd : Addr} {dS dFi dD dP dFe dLk dIs dId dFd : FuncData}
  {cdv : Value} {A : Around} {outer : List Env} {s : Shared} {H0 : Hp} {E : XK} {Q : VK}
theorem law_facts (C : LawEnv P w K mg base gS gFi gD gP gFe gLk gIs gId gFd dS dFi dD dP dFe dLk dIs dId dFd) (hgu : A.guards = some []) (hr : Room 30 (lawA ff cdv A s)) (q : ∀ H', Q (.bl true) H') :
    ∃ t, PSs (lawX P w K mg base ff cdv A outer s H0 E) ((defBody sLaw).drop 2) t ∧
      ∀ (a0 st : Addr) (b : Int) (H : Hp), -19 ≤ b → b ≤ 880060 → StAt H st →
        t { nx := fun _ H' => Q .non H', rt := Q } [some (.ref a0), some (.ref st), some (.int b), none, none, none, none, none, none, none, none, none, none, none] H := by
  have hu := hu_of hr
  obtain ⟨tl, htl, rd⟩ := law_mids (outer := outer) (H0 := H0) (E := E) C hgu hr q
  refine ⟨_, (pss_cons (ps_set (i := 3) scLaw.nd rfl (.inl rfl) pe_dnewK)
        (pss_mid (ps_for PassesOwn.never rfl (pi_list (pe_lst (pa_cons pe_str (pa_cons pe_str pa_nil)))) (pg_name (i := 4) scLaw.nd rfl (.inl rfl))
        (pss_cons (ps_set (i := 5) scLaw.nd rfl (.inl rfl) (pe_call C.CD.ok hr (by rfl) C.CD.g C.CD.kp C.CD.b .nil pass0 (pa_cons (pv 1) (pa_cons pe_int pa_nil))))
        (pss_one (ps_dput hu (pv 3) (pv 4) (pe_callB (cr_sortedSet rfl) (by rfl) C.mso (by decide +kernel) (pa_cons (pe_callTy (cr_setL rfl) (by rfl) C.mse (by decide +kernel) (pa_cons (pe_lc (own := [("_law_k", 13)]) (g := gName 13) (tt := tYes) rfl scLaw.nd (pi_range1 (by rfl) C.mr (pa_cons (pv 5) pa_nil)) (blkOk_by (own := [("_law_k", 13)]) (N := nLaw) (sc := defScope sLaw) (by decide +kernel))
            (fun _ _ _ _ _ => pg_name (i := 13) scLaw.nd rfl (.inl rfl)) (fun _ _ _ _ _ => pts_nil)
            (fun _ _ _ _ _ => (pe_op op_sub (pe_op op_add (pv 2) (pe_call C.CD.ok hr (by rfl) C.CD.g C.CD.kp C.CD.b .nil pass0 (pa_cons (pv 1) (pa_cons (pe_call C.CP.ok hr (by rfl) C.CP.g C.CP.kp C.CP.b .nil pass0 (pa_cons (pv 1) (pa_cons (pe_lst (pa_cons pe_int (pa_cons pe_int pa_nil))) pa_nil))) pa_nil)))) (pe_call C.CP.ok hr (by rfl) C.CP.g C.CP.kp C.CP.b .nil pass0 (pa_cons (pv 1) (pa_cons (pe_lst (pa_cons pe_int (pa_cons pe_int pa_nil))) pa_nil)))))) pa_nil)) pa_nil)) rfl))))
        htl)), ?_⟩
  intro a0 st b H3 b1 b2 st3
  intro fa hfa
  have pt0 : Part (upd H3 fa (.dK [])) fa 0 := .inl ⟨rfl, upd_same⟩
  have st4 := st3.same (same_new hfa (o := .dK []))
  generalize upd H3 fa (.dK []) = H4 at pt0 st4
  refine ⟨fun σ H' => ∃ o4 o5, σ = [some (.ref a0), some (.ref st), some (.int b), some (.ref fa), o4, o5, none, none, none, none, none, none, none, none] ∧ StAt H' st ∧ Part H' fa 2, ?_, ?_⟩
  · refine ⟨by decide, fun lw hlw => ⟨lw, rfl, ⟨_, SqL.of upd_same⟩, ?_⟩⟩
    refine for_list (K := K) (a := lw) (xs := [.str "full", .str "spring"]) (fun i σ H' => ∃ o4 o5, σ = [some (.ref a0), some (.ref st), some (.int b), some (.ref fa), o4, o5, none, none, none, none, none, none, none, none] ∧ StAt H' st ∧ Part H' fa i ∧ H' lw = some (.lst [.str "full", .str "spring"]))
      ⟨none, none, rfl, st4.same (same_new hlw), pt0.same (same_new hlw), upd_same⟩ (fun i σ H' _ ⟨_, _, _, _, _, h⟩ => SqL.of h) ?_ (fun σ H' ⟨o4, o5, e, h1, h2, _⟩ => ⟨o4, o5, e, h1, h2⟩)
    rintro i x σ H5 hx ⟨o4, o5, rfl, st5, pt5, lw5⟩
    obtain ⟨hi, rfl⟩ := wd_at hx
    refine ⟨_, rfl, st, _, rfl, st5, by decide, by decide, fun H6 m kp6 st6 m0 m1 => ?_⟩
    have pt6 := pt5.kst st5 kp6
    have lw6 := lst_kst st5 kp6 lw5
    refine ⟨_, rfl, _, rfl, by omega, by omega, fun D hD => ?_⟩
    refine lc_range (lo := 0) (n := m.toNat) (fun j H' => ∃ acc : List Int, H' D = some (.lst (acc.map V.int)) ∧ acc.length ≤ j ∧ (∀ x ∈ acc, x.natAbs < 10 ^ 12) ∧ StAt H' st ∧ Kp st H6 H')
      ⟨[], upd_same, Nat.le_refl _, fun x hx => absurd hx (List.not_mem_nil), st6.same (same_new hD), Same.kp (same_new hD)⟩ ?_ ?_
    · rintro j H7 hj ⟨acc, hacc, lacc, bacc, st7, kp7⟩
      refine ⟨rfl, ?_⟩
      simp only [tYes, if_true]
      refine ⟨_, rfl, _, rfl, _, rfl, by decide, fun p hp => ⟨st, p, _, rfl, st7.same (same_new hp), upd_same, by decide, by decide, fun H8 y kp8 st8 hy => ?_⟩⟩
      have d8 := lst_kst (st7.same (same_new hp)) kp8 (same_new hp _ _ hacc)
      have k8 := kp7.trans ((Same.kp (same_new hp)).trans kp8)
      obtain ⟨u, rfl, u1, u2⟩ : ∃ u : Int, y = .int u ∧ 0 < u ∧ u ≤ 900 := by
        simp only [List.mem_cons, List.mem_nil_iff, or_false] at hy
        rcases hy with rfl | rfl
        · exact ⟨40, rfl, by omega, by omega⟩
        · exact ⟨900, rfl, by omega, by omega⟩
      refine ⟨st, u, rfl, st8, u1, by omega, fun H9 z kp9 st9 z0 z1 => ⟨_, _, rfl, rfl, ?_⟩⟩
      have d9 := lst_kst st8 kp9 d8
      have k9 := k8.trans kp9
      refine ⟨_, rfl, by decide, fun p2 hp2 => ⟨st, p2, _, rfl, st9.same (same_new hp2), upd_same, by decide, by decide, fun H10 y kp10 st10 hy => ?_⟩⟩
      have d10 := lst_kst (st9.same (same_new hp2)) kp10 (same_new hp2 _ _ d9)
      have k10 := k9.trans ((Same.kp (same_new hp2)).trans kp10)
      obtain ⟨v, rfl, v1, v2⟩ : ∃ v : Int, y = .int v ∧ 0 ≤ v ∧ v ≤ 420 := by
        simp only [List.mem_cons, List.mem_nil_iff, or_false] at hy
        rcases hy with rfl | rfl
        · exact ⟨0, rfl, by omega, by omega⟩
        · exact ⟨420, rfl, by omega, by omega⟩
      refine ⟨_, _, rfl, rfl, _, d10, by rw [List.length_map, sizeLine_eq]; omega, acc ++ [b + z - v], ?_, ?_, ?_, ?_, ?_⟩
      · rw [upd_same, List.map_append]
        rfl
      · rw [List.length_append, List.length_singleton]
        omega
      · intro x hx
        rcases List.mem_append.mp hx with hx | hx
        · exact bacc x hx
        · rw [List.mem_singleton.mp hx]
          omega
      · have e := st10.lst (ms' := acc ++ [b + z - v]) d10
        rw [List.map_append] at e
        exact e
      · intro c o nc e
        rw [upd_ne (ne_of_none e hD)]
        exact k10 c o nc e
    · rintro H7 ⟨acc, hacc, lacc, bacc, st7, kp7⟩
      refine ⟨D, acc, rfl, SqL.of hacc, by omega, fun p c hc hp => ?_⟩
      refine ⟨p, _, c, rfl, upd_same, by omega, fun ns q2 pw mem len hq => ?_⟩
      have pt7 := pt6.kst st6 kp7
      have lw7 := lst_kst st6 kp7 lw6
      have s8 : Same H7 (upd (upd H7 p (SetO w p (fun j => decide (j ∈ acc)) c)) q2 (.lst (ns.map V.int))) := (same_new hp).trans (same_new hq)
      have g : Good ns := ⟨by omega, fun x hx => bacc x (of_decide_eq_true ((mem x).mp hx))⟩
      have st8 := st7.same s8
      have pt8 := pt7.same s8
      have lw8 := s8 _ _ lw7
      obtain ⟨kvs, e, hl, pt9⟩ := pt8.put hi (q := q2) (ns := ns) upd_same g
      refine ⟨_, rfl, _, rfl, fa, _, rfl, DPut.k (k := Sum.inr (wd i)) e hl, _, _, rfl, st8.dput e (part_ne pt8 st8).symm, pt9, ?_⟩
      rw [upd_ne (ne_of lw8 e (fun z => nomatch z))]
      exact lw8
  · rintro σ H5 ⟨o4, o5, rfl, st5, pt5⟩
    exact rd a0 st fa b H5 o4 o5 b1 b2 st5 pt5
theorem ok_law {fd : FuncData} (FF : Fun K "law" "law" sLaw ff fd) (C : LawEnv P w K mg base gS gFi gD gP gFe gLk gIs gId gFd dS dFi dD dP dFe dLk dIs dId dFd) : FnG P w K mg base 31 ff fd ["_law_script"] (spLaw K) := by
  refine Fun.okG FF scLaw (fun vs H Q E h => ?_) (fun cdv A outer s H vs Q E hgu hr h => ?_)
  · obtain ⟨a, ns, rfl, _⟩ := h
    rfl
  · obtain ⟨a0, ns, rfl, hS, hlen, q⟩ := h
    have hu := hu_of hr
    obtain ⟨tl, htl, rd⟩ := law_facts (outer := outer) (H0 := H) (E := E) C hgu hr q
    refine ⟨_, (pss_cons (ps_set (i := 1) scLaw.nd rfl (.inr rfl) (pe_call C.CS.ok hr (by rfl) C.CS.g C.CS.kp C.CS.b .nil pass0 (pa_cons (pv 0) pa_nil)))
        (pss_cons (ps_set (i := 2) scLaw.nd rfl (.inr rfl) (pe_op op_add (pe_call C.CFi.ok hr (by rfl) C.CFi.g C.CFi.kp C.CFi.b .nil pass0 (pa_cons pe_str (pa_cons (pe_op op_add pe_int (pe_call C.CD.ok hr (by rfl) C.CD.g C.CD.kp C.CD.b .nil pass0 (pa_cons (pv 1) (pa_cons pe_int pa_nil)))) pa_nil))) (pe_call C.CP.ok hr (by rfl) C.CP.g C.CP.kp C.CP.b .nil pass0 (pa_cons (pv 1) (pa_cons (pe_lst (pa_cons (pe_un un_neg pe_int) (pa_cons pe_int (pa_cons pe_int (pa_cons pe_int pa_nil))))) pa_nil)))))
        htl)), ?_⟩
    refine ⟨_, rfl, a0, ns, rfl, hS, hlen, fun H1 st s1 st1 hnst => ?_⟩
    refine ⟨_, rfl, st, _, rfl, st1, by decide, by decide, fun H2 z kp2 st2 z0 z1 => ?_⟩
    refine ⟨_, _, rfl, rfl, false, 1 + z, rfl, ?_⟩
    refine ⟨_, rfl, _, rfl, by decide, fun p1 hp1 => ⟨st, p1, _, rfl, st2.same (same_new hp1), upd_same, by decide, by decide, fun H3 x kp3 st3 hx => ?_⟩⟩
    obtain ⟨v, rfl, v1, v2⟩ : ∃ v : Int, x = .int v ∧ -20 ≤ v ∧ v ≤ 60 := by
      simp only [List.mem_cons, List.mem_nil_iff, or_false] at hx
      rcases hx with rfl | rfl | rfl | rfl
      · exact ⟨-20, rfl, by omega, by omega⟩
      · exact ⟨0, rfl, by omega, by omega⟩
      · exact ⟨45, rfl, by omega, by omega⟩
      · exact ⟨60, rfl, by omega, by omega⟩
    have fb := fst_bounds (y := 1 + z) (by omega) (by omega)
    exact ⟨_, _, rfl, rfl, rd a0 st (fst false (1 + z) + v) H3 (by omega) (by omega) st3⟩
end
end Al

set_option Elab.async false
set_option linter.all false
set_option maxRecDepth 100000
set_option maxHeartbeats 8000000
/-! The inductions, the program's top. -/
namespace Al
open PySem PySem.Spec PyProof.Rows L2
def intsOf : List Value → Option (List Int)
  | [] => some []
  | .int i _ :: r => (intsOf r).map fun l => i :: l
  | _ :: _ => none
theorem vals_intsOf : ∀ {us : List Value} {l : List Int}, intsOf us = some l → Vals (l.map V.int) us
  | [], _, h => by
    have h := Option.some.inj h
    subst h
    exact .nil
  | u :: r, l, h => by
    cases u with
    | int i t =>
      obtain ⟨l', h1, h2⟩ := Option.map_eq_some_iff.mp (show (intsOf r).map (fun l => i :: l) = some l from h)
      subst h2
      exact .cons ⟨t, rfl⟩ (vals_intsOf h1)
    | _ => cases h
theorem sqT_mk {K : PySem.W.Frag} {a : Addr} {od : Option Addr} {its : Array Value} {n : Nat} {sl : Array (Option Value)} (h : K.lookup a = some ⟨.type "tuple", od, .seq its n, sl⟩) (v : intsOf its.toList = some lens) (H : Hp) : SqT K H a (lens.map V.int) := by
  have r := vals_intsOf v
  refine .inr ⟨_, its, n, h, rfl, rfl, ?_, r⟩
  have e : its.toList.length = (lens.map V.int).length := r.length.symm
  rw [Array.length_toList] at e
  rw [e, List.length_map]
  show 12 ≤ sizeLine
  decide
section
variable {P : Program} {w : World} {K : PySem.W.Frag} {mg : Str → Option Value} {base : Heap}
theorem fn_never {k : Nat} {f : Addr} {fd : FuncData} {ps : List Str} {sp : Sp} (no : ∀ vs H Q E, ¬ sp vs H Q E) : FnOk P w K mg base CX0 k f fd ps sp :=
  ⟨fun vs H Q E h => absurd h (no vs H Q E), fun A outer s H args us vs Q E _ _ _ _ h => absurd h (no vs H Q E)⟩

theorem all_isDay {F : TN → List Int} {f g gW gD : Addr} {fd gd dW dD : FuncData} {tk : Tok} (FI : Fun K "is_day" "is_day" sIsDay f fd) (FF : Fun K "is_first" "is_first" sIsFirst g gd)
    (bI : Binds K fd ["feast", "facts", "day"] []) (bF : Binds K gd ["feast", "facts", "day"] []) (mI : mg "is_day" = some (.ref f)) (mF : mg "is_first" = some (.ref g))
    (G1 : FnOk P w K mg base CX0 1 gW dW ["day"] spWeekday) (b1 : Binds K dW ["day"] []) (k1 : PySem.W.keepIn K (.ref gW) = true) (m1 : mg "weekday" = some (.ref gW))
    (G2 : FnOk P w K mg base CX0 3 gD dD ["calendar", "day"] spDate) (b2 : Binds K dD ["calendar", "day"] []) (k2 : PySem.W.keepIn K (.ref gD) = true) (m2 : mg "date_of" = some (.ref gD))
    (mr : mg "range" = none) (mT : mg "FARTHEST" = some (.int 400 tk)) : ∀ n : Nat, FnOk P w K mg base CX0 (6 + 2 * n) f fd ["feast", "facts", "day"] (spIsDay F n)
  | 0 => fn_never fun vs H Q E h => by
    obtain ⟨a, fa, f, d, _, _, _, _, hd, _⟩ := h
    have := deep_pos f
    omega
  | n + 1 => by
    have ih := all_isDay (F := F) FI FF bI bF mI mF G1 b1 k1 m1 G2 b2 k2 m2 mr mT n
    have h1 := (ok_isFirst FF ih bI FI.kp mI mr mT).mono (k := 7 + 2 * n) (by omega)
    exact (ok_isDay FI G1 b1 k1 m1 G2 b2 k2 m2 ih bI FI.kp mI h1 bF FF.kp mF).mono (by omega)
theorem all_daysOf {F : TN → List Int} {f g gI : Addr} {fd gd dI : FuncData} {tk : Tok} (FD : Fun K "days_of" "days_of" sDaysOf f fd) (FF : Fun K "first_days" "first_days" sFirstDays g gd)
    (bD : Binds K fd ["feast", "facts", "first", "last"] []) (bF : Binds K gd ["feast", "facts", "first", "last"] []) (mD : mg "days_of" = some (.ref f)) (mF : mg "first_days" = some (.ref g))
    (G1 : FnOk P w K mg base CX0 8 gI dI ["feast", "facts", "day"] (spIsDay F 1)) (b1 : Binds K dI ["feast", "facts", "day"] []) (k1 : PySem.W.keepIn K (.ref gI) = true) (m1 : mg "is_day" = some (.ref gI))
    (mr : mg "range" = none) (mT : mg "FARTHEST" = some (.int 400 tk)) : ∀ n : Nat, FnOk P w K mg base CX0 (9 + 2 * n) f fd ["feast", "facts", "first", "last"] (spDaysOf F n)
  | 0 => fn_never fun vs H Q E h => by
    obtain ⟨a, fa, f, lo, hi, _, _, _, _, hd, _⟩ := h
    have := deep_pos f
    omega
  | n + 1 => by
    have ih := all_daysOf (F := F) FD FF bD bF mD mF G1 b1 k1 m1 mr mT n
    have h1 := (ok_firstDays FF ih bD FD.kp mD mr mT).mono (k := 10 + 2 * n) (by omega)
    exact (ok_daysOf FD G1 b1 k1 m1 ih bD FD.kp mD h1 bF FF.kp mF mr).mono (by omega)
theorem all_feast {f gD gP : Addr} {fd dD dP : FuncData} (FF : Fun K "_law_feast" "_law_feast" sFeast f fd) (bF : Binds K fd ["_law_state", "_law_deep"] []) (mF : mg "_law_feast" = some (.ref f))
    (G : FnOk P w K mg base CX0 1 gD dD ["_law_state", "_law_bound"] spDraw) (bG : Binds K dD ["_law_state", "_law_bound"] []) (kG : PySem.W.keepIn K (.ref gD) = true) (mG : mg "_law_draw" = some (.ref gD))
    (G2 : FnOk P w K mg base CX0 2 gP dP ["_law_state", "_law_things"] spPick) (bG2 : Binds K dP ["_law_state", "_law_things"] []) (kG2 : PySem.W.keepIn K (.ref gP) = true) (mG2 : mg "_law_pick" = some (.ref gP)) :
    ∀ n : Nat, FnOk P w K mg base CX0 (3 + n) f fd ["_law_state", "_law_deep"] (spFeast n)
  | 0 => fn_never fun vs H Q E h => by
    obtain ⟨st, k, _, _, hk, _⟩ := h
    omega
  | n + 1 => (ok_feast FF G bG kG mG G2 bG2 kG2 mG2 (all_feast FF bF mF G bG kG mG G2 bG2 kG2 mG2 n) bF FF.kp mF).mono (by omega)
theorem all_look {W : Wd} {f g gD : Addr} {fd gd dD : FuncData} (FI : Fun K "_law_is_day" "_law_is_day" sLIsDay f fd) (FF : Fun K "_law_find" "_law_find" sLFind g gd)
    (bI : Binds K fd pLook []) (bF : Binds K gd pLook []) (mI : mg "_law_is_day" = some (.ref f)) (mF : mg "_law_find" = some (.ref g))
    (G2 : FnOk P w K mg base CX0 3 gD dD ["_law_calendar_here", "_law_month", "_law_number", "_law_day"] spIsDate) (b2 : Binds K dD ["_law_calendar_here", "_law_month", "_law_number", "_law_day"] []) (k2 : PySem.W.keepIn K (.ref gD) = true) (m2 : mg "_law_is_date" = some (.ref gD))
    (mi : mg "int" = none) (mr : mg "range" = none) : ∀ n : Nat, n ≤ 7 → FnOk P w K mg base CX0 (3 + 2 * n) f fd pLook (spLook P w W n)
  | 0, _ => fn_never fun vs H Q E h => by
    obtain ⟨a, fa, kn, f, d, es, _, _, _, _, _, _, hd, _⟩ := h
    have := deep_pos f
    omega
  | n + 1, hn => by
    have ih := all_look (W := W) FI FF bI bF mI mF G2 b2 k2 m2 mi mr n (by omega)
    exact (ok_lIsDay FI hn (ok_lFind FF ih bI FI.kp mI G2 b2 k2 m2 mi mr) bF FF.kp mF).mono (by omega)
end

theorem all_mk {l : PySem.W.OpenLaw} {w : World} {K : PySem.W.Frag} {h : Heap} {mg : Str → Option Value} {fa : Addr} (X : K.In h) (G : h.Ns mainGlobals mg) (hfa : mg "law" = some (.ref fa))
    {fWk : Addr} {odWk anWk : Option Addr} {slWk : Array (Option Value)} {ocWk kVWk dcWk pmWk cdWk ctWk : Value}
    {fLp : Addr} {odLp anLp : Option Addr} {slLp : Array (Option Value)} {ocLp kVLp dcLp pmLp cdLp ctLp : Value}
    {fMo : Addr} {odMo anMo : Option Addr} {slMo : Array (Option Value)} {ocMo kVMo dcMo pmMo cdMo ctMo : Value}
    {fFi : Addr} {odFi anFi : Option Addr} {slFi : Array (Option Value)} {ocFi kVFi dcFi pmFi cdFi ctFi : Value}
    {fYo : Addr} {odYo anYo : Option Addr} {slYo : Array (Option Value)} {ocYo kVYo dcYo pmYo cdYo ctYo : Value}
    {fDa : Addr} {odDa anDa : Option Addr} {slDa : Array (Option Value)} {ocDa kVDa dcDa pmDa cdDa ctDa : Value}
    {fIs : Addr} {odIs anIs : Option Addr} {slIs : Array (Option Value)} {ocIs kVIs dcIs pmIs cdIs ctIs : Value}
    {fIf : Addr} {odIf anIf : Option Addr} {slIf : Array (Option Value)} {ocIf kVIf dcIf pmIf cdIf ctIf : Value}
    {fFd : Addr} {odFd anFd : Option Addr} {slFd : Array (Option Value)} {ocFd kVFd dcFd pmFd cdFd ctFd : Value}
    {fDo : Addr} {odDo anDo : Option Addr} {slDo : Array (Option Value)} {ocDo kVDo dcDo pmDo cdDo ctDo : Value}
    {fFf : Addr} {odFf anFf : Option Addr} {slFf : Array (Option Value)} {ocFf kVFf dcFf pmFf cdFf ctFf : Value}
    {fSt : Addr} {odSt anSt : Option Addr} {slSt : Array (Option Value)} {ocSt kVSt dcSt pmSt cdSt ctSt : Value}
    {fDr : Addr} {odDr anDr : Option Addr} {slDr : Array (Option Value)} {ocDr kVDr dcDr pmDr cdDr ctDr : Value}
    {fPi : Addr} {odPi anPi : Option Addr} {slPi : Array (Option Value)} {ocPi kVPi dcPi pmPi cdPi ctPi : Value}
    {fEq : Addr} {odEq anEq : Option Addr} {slEq : Array (Option Value)} {ocEq kVEq dcEq pmEq cdEq ctEq : Value}
    {fLL : Addr} {odLL anLL : Option Addr} {slLL : Array (Option Value)} {ocLL kVLL dcLL pmLL cdLL ctLL : Value}
    {fLM : Addr} {odLM anLM : Option Addr} {slLM : Array (Option Value)} {ocLM kVLM dcLM pmLM cdLM ctLM : Value}
    {fLF : Addr} {odLF anLF : Option Addr} {slLF : Array (Option Value)} {ocLF kVLF dcLF pmLF cdLF ctLF : Value}
    {fLD : Addr} {odLD anLD : Option Addr} {slLD : Array (Option Value)} {ocLD kVLD dcLD pmLD cdLD ctLD : Value}
    {fFe : Addr} {odFe anFe : Option Addr} {slFe : Array (Option Value)} {ocFe kVFe dcFe pmFe cdFe ctFe : Value}
    {fLI : Addr} {odLI anLI : Option Addr} {slLI : Array (Option Value)} {ocLI kVLI dcLI pmLI cdLI ctLI : Value}
    {fLo : Addr} {odLo anLo : Option Addr} {slLo : Array (Option Value)} {ocLo kVLo dcLo pmLo cdLo ctLo : Value}
    {fLw : Addr} {odLw anLw : Option Addr} {slLw : Array (Option Value)} {ocLw kVLw dcLw pmLw cdLw ctLw : Value}
    {tcF tcB tcT : Tok} {aLen : Addr} {odLen : Option Addr} {itsLen : Array Value} {nLen : Nat} {slLen : Array (Option Value)}
    (aWk : PySem.W.nsIn K mainGlobals "weekday" = some (some (.ref fWk))) (lWk : K.lookup fWk = some ⟨ocWk, odWk, .func (PySem.W.fnOf "weekday" "weekday" (defArgs sWeekday) (defBody sWeekday) (defScope sWeekday) .none kVWk dcWk pmWk anWk cdWk ctWk), slWk⟩) (cWk : PySem.W.codeIn K cdWk "weekday" = true) (kWk : PySem.W.keepIn K (.ref fWk) = true)
    (aLp : PySem.W.nsIn K mainGlobals "is_leap" = some (some (.ref fLp))) (lLp : K.lookup fLp = some ⟨ocLp, odLp, .func (PySem.W.fnOf "is_leap" "is_leap" (defArgs sIsLeap) (defBody sIsLeap) (defScope sIsLeap) .none kVLp dcLp pmLp anLp cdLp ctLp), slLp⟩) (cLp : PySem.W.codeIn K cdLp "is_leap" = true) (kLp : PySem.W.keepIn K (.ref fLp) = true)
    (aMo : PySem.W.nsIn K mainGlobals "months_of" = some (some (.ref fMo))) (lMo : K.lookup fMo = some ⟨ocMo, odMo, .func (PySem.W.fnOf "months_of" "months_of" (defArgs sMonthsOf) (defBody sMonthsOf) (defScope sMonthsOf) .none kVMo dcMo pmMo anMo cdMo ctMo), slMo⟩) (cMo : PySem.W.codeIn K cdMo "months_of" = true) (kMo : PySem.W.keepIn K (.ref fMo) = true)
    (aFi : PySem.W.nsIn K mainGlobals "first_day" = some (some (.ref fFi))) (lFi : K.lookup fFi = some ⟨ocFi, odFi, .func (PySem.W.fnOf "first_day" "first_day" (defArgs sFirstDay) (defBody sFirstDay) (defScope sFirstDay) .none kVFi dcFi pmFi anFi cdFi ctFi), slFi⟩) (cFi : PySem.W.codeIn K cdFi "first_day" = true) (kFi : PySem.W.keepIn K (.ref fFi) = true)
    (aYo : PySem.W.nsIn K mainGlobals "year_of" = some (some (.ref fYo))) (lYo : K.lookup fYo = some ⟨ocYo, odYo, .func (PySem.W.fnOf "year_of" "year_of" (defArgs sYearOf) (defBody sYearOf) (defScope sYearOf) .none kVYo dcYo pmYo anYo cdYo ctYo), slYo⟩) (cYo : PySem.W.codeIn K cdYo "year_of" = true) (kYo : PySem.W.keepIn K (.ref fYo) = true)
    (aDa : PySem.W.nsIn K mainGlobals "date_of" = some (some (.ref fDa))) (lDa : K.lookup fDa = some ⟨ocDa, odDa, .func (PySem.W.fnOf "date_of" "date_of" (defArgs sDateOf) (defBody sDateOf) (defScope sDateOf) .none kVDa dcDa pmDa anDa cdDa ctDa), slDa⟩) (cDa : PySem.W.codeIn K cdDa "date_of" = true) (kDa : PySem.W.keepIn K (.ref fDa) = true)
    (aIs : PySem.W.nsIn K mainGlobals "is_day" = some (some (.ref fIs))) (lIs : K.lookup fIs = some ⟨ocIs, odIs, .func (PySem.W.fnOf "is_day" "is_day" (defArgs sIsDay) (defBody sIsDay) (defScope sIsDay) .none kVIs dcIs pmIs anIs cdIs ctIs), slIs⟩) (cIs : PySem.W.codeIn K cdIs "is_day" = true) (kIs : PySem.W.keepIn K (.ref fIs) = true)
    (aIf : PySem.W.nsIn K mainGlobals "is_first" = some (some (.ref fIf))) (lIf : K.lookup fIf = some ⟨ocIf, odIf, .func (PySem.W.fnOf "is_first" "is_first" (defArgs sIsFirst) (defBody sIsFirst) (defScope sIsFirst) .none kVIf dcIf pmIf anIf cdIf ctIf), slIf⟩) (cIf : PySem.W.codeIn K cdIf "is_first" = true) (kIf : PySem.W.keepIn K (.ref fIf) = true)
    (aFd : PySem.W.nsIn K mainGlobals "feast_days" = some (some (.ref fFd))) (lFd : K.lookup fFd = some ⟨ocFd, odFd, .func (PySem.W.fnOf "feast_days" "feast_days" (defArgs sFeastDays) (defBody sFeastDays) (defScope sFeastDays) .none kVFd dcFd pmFd anFd cdFd ctFd), slFd⟩) (cFd : PySem.W.codeIn K cdFd "feast_days" = true) (kFd : PySem.W.keepIn K (.ref fFd) = true)
    (aDo : PySem.W.nsIn K mainGlobals "days_of" = some (some (.ref fDo))) (lDo : K.lookup fDo = some ⟨ocDo, odDo, .func (PySem.W.fnOf "days_of" "days_of" (defArgs sDaysOf) (defBody sDaysOf) (defScope sDaysOf) .none kVDo dcDo pmDo anDo cdDo ctDo), slDo⟩) (cDo : PySem.W.codeIn K cdDo "days_of" = true) (kDo : PySem.W.keepIn K (.ref fDo) = true)
    (aFf : PySem.W.nsIn K mainGlobals "first_days" = some (some (.ref fFf))) (lFf : K.lookup fFf = some ⟨ocFf, odFf, .func (PySem.W.fnOf "first_days" "first_days" (defArgs sFirstDays) (defBody sFirstDays) (defScope sFirstDays) .none kVFf dcFf pmFf anFf cdFf ctFf), slFf⟩) (cFf : PySem.W.codeIn K cdFf "first_days" = true) (kFf : PySem.W.keepIn K (.ref fFf) = true)
    (aSt : PySem.W.nsIn K mainGlobals "_law_start" = some (some (.ref fSt))) (lSt : K.lookup fSt = some ⟨ocSt, odSt, .func (PySem.W.fnOf "_law_start" "_law_start" (defArgs sStart) (defBody sStart) (defScope sStart) .none kVSt dcSt pmSt anSt cdSt ctSt), slSt⟩) (cSt : PySem.W.codeIn K cdSt "_law_start" = true) (kSt : PySem.W.keepIn K (.ref fSt) = true)
    (aDr : PySem.W.nsIn K mainGlobals "_law_draw" = some (some (.ref fDr))) (lDr : K.lookup fDr = some ⟨ocDr, odDr, .func (PySem.W.fnOf "_law_draw" "_law_draw" (defArgs sDraw) (defBody sDraw) (defScope sDraw) .none kVDr dcDr pmDr anDr cdDr ctDr), slDr⟩) (cDr : PySem.W.codeIn K cdDr "_law_draw" = true) (kDr : PySem.W.keepIn K (.ref fDr) = true)
    (aPi : PySem.W.nsIn K mainGlobals "_law_pick" = some (some (.ref fPi))) (lPi : K.lookup fPi = some ⟨ocPi, odPi, .func (PySem.W.fnOf "_law_pick" "_law_pick" (defArgs sPick) (defBody sPick) (defScope sPick) .none kVPi dcPi pmPi anPi cdPi ctPi), slPi⟩) (cPi : PySem.W.codeIn K cdPi "_law_pick" = true) (kPi : PySem.W.keepIn K (.ref fPi) = true)
    (aEq : PySem.W.nsIn K mainGlobals "_law_is" = some (some (.ref fEq))) (lEq : K.lookup fEq = some ⟨ocEq, odEq, .func (PySem.W.fnOf "_law_is" "_law_is" (defArgs sIs) (defBody sIs) (defScope sIs) .none kVEq dcEq pmEq anEq cdEq ctEq), slEq⟩) (cEq : PySem.W.codeIn K cdEq "_law_is" = true) (kEq : PySem.W.keepIn K (.ref fEq) = true)
    (aLL : PySem.W.nsIn K mainGlobals "_law_leap" = some (some (.ref fLL))) (lLL : K.lookup fLL = some ⟨ocLL, odLL, .func (PySem.W.fnOf "_law_leap" "_law_leap" (defArgs sLLeap) (defBody sLLeap) (defScope sLLeap) .none kVLL dcLL pmLL anLL cdLL ctLL), slLL⟩) (cLL : PySem.W.codeIn K cdLL "_law_leap" = true) (kLL : PySem.W.keepIn K (.ref fLL) = true)
    (aLM : PySem.W.nsIn K mainGlobals "_law_months" = some (some (.ref fLM))) (lLM : K.lookup fLM = some ⟨ocLM, odLM, .func (PySem.W.fnOf "_law_months" "_law_months" (defArgs sLMonths) (defBody sLMonths) (defScope sLMonths) .none kVLM dcLM pmLM anLM cdLM ctLM), slLM⟩) (cLM : PySem.W.codeIn K cdLM "_law_months" = true) (kLM : PySem.W.keepIn K (.ref fLM) = true)
    (aLF : PySem.W.nsIn K mainGlobals "_law_first" = some (some (.ref fLF))) (lLF : K.lookup fLF = some ⟨ocLF, odLF, .func (PySem.W.fnOf "_law_first" "_law_first" (defArgs sLFirst) (defBody sLFirst) (defScope sLFirst) .none kVLF dcLF pmLF anLF cdLF ctLF), slLF⟩) (cLF : PySem.W.codeIn K cdLF "_law_first" = true) (kLF : PySem.W.keepIn K (.ref fLF) = true)
    (aLD : PySem.W.nsIn K mainGlobals "_law_is_date" = some (some (.ref fLD))) (lLD : K.lookup fLD = some ⟨ocLD, odLD, .func (PySem.W.fnOf "_law_is_date" "_law_is_date" (defArgs sLIsDate) (defBody sLIsDate) (defScope sLIsDate) .none kVLD dcLD pmLD anLD cdLD ctLD), slLD⟩) (cLD : PySem.W.codeIn K cdLD "_law_is_date" = true) (kLD : PySem.W.keepIn K (.ref fLD) = true)
    (aFe : PySem.W.nsIn K mainGlobals "_law_feast" = some (some (.ref fFe))) (lFe : K.lookup fFe = some ⟨ocFe, odFe, .func (PySem.W.fnOf "_law_feast" "_law_feast" (defArgs sFeast) (defBody sFeast) (defScope sFeast) .none kVFe dcFe pmFe anFe cdFe ctFe), slFe⟩) (cFe : PySem.W.codeIn K cdFe "_law_feast" = true) (kFe : PySem.W.keepIn K (.ref fFe) = true)
    (aLI : PySem.W.nsIn K mainGlobals "_law_is_day" = some (some (.ref fLI))) (lLI : K.lookup fLI = some ⟨ocLI, odLI, .func (PySem.W.fnOf "_law_is_day" "_law_is_day" (defArgs sLIsDay) (defBody sLIsDay) (defScope sLIsDay) .none kVLI dcLI pmLI anLI cdLI ctLI), slLI⟩) (cLI : PySem.W.codeIn K cdLI "_law_is_day" = true) (kLI : PySem.W.keepIn K (.ref fLI) = true)
    (aLo : PySem.W.nsIn K mainGlobals "_law_find" = some (some (.ref fLo))) (lLo : K.lookup fLo = some ⟨ocLo, odLo, .func (PySem.W.fnOf "_law_find" "_law_find" (defArgs sLFind) (defBody sLFind) (defScope sLFind) .none kVLo dcLo pmLo anLo cdLo ctLo), slLo⟩) (cLo : PySem.W.codeIn K cdLo "_law_find" = true) (kLo : PySem.W.keepIn K (.ref fLo) = true)
    (aLw : PySem.W.nsIn K mainGlobals "law" = some (some (.ref fLw))) (lLw : K.lookup fLw = some ⟨ocLw, odLw, .func (PySem.W.fnOf "law" "law" (defArgs sLaw) (defBody sLaw) (defScope sLaw) .none kVLw dcLw pmLw anLw cdLw ctLw), slLw⟩) (cLw : PySem.W.codeIn K cdLw "law" = true) (kLw : PySem.W.keepIn K (.ref fLw) = true)
    (z_isinstance : PySem.W.nsIn K mainGlobals "isinstance" = some none) (z_str : PySem.W.nsIn K mainGlobals "str" = some none) (z_list : PySem.W.nsIn K mainGlobals "list" = some none) (z_len : PySem.W.nsIn K mainGlobals "len" = some none) (z_sum : PySem.W.nsIn K mainGlobals "sum" = some none) (z_range : PySem.W.nsIn K mainGlobals "range" = some none) (z_int : PySem.W.nsIn K mainGlobals "int" = some none) (z_abs : PySem.W.nsIn K mainGlobals "abs" = some none) (z_bool : PySem.W.nsIn K mainGlobals "bool" = some none) (z_sorted : PySem.W.nsIn K mainGlobals "sorted" = some none) (z_set : PySem.W.nsIn K mainGlobals "set" = some none) (z_repr : PySem.W.nsIn K mainGlobals "repr" = some none)
    (cF : PySem.W.nsIn K mainGlobals "FIRST_JULIAN" = some (some (.int (-1) tcF))) (cB : PySem.W.nsIn K mainGlobals "FEBRUARY" = some (some (.int 1 tcB))) (cT : PySem.W.nsIn K mainGlobals "FARTHEST" = some (some (.int 400 tcT)))
    (aLn : PySem.W.nsIn K mainGlobals "LENGTHS" = some (some (.ref aLen))) (lLn : K.lookup aLen = some ⟨.type "tuple", odLen, .seq itsLen nLen, slLen⟩) (vLn : intsOf itsLen.toList = some lens) :
    ∃ fd : FuncData, (∀ (s : Shared) (u : Value), BindsTo s fd ⟨[u], []⟩ [("_law_script", u)]) ∧ ∀ base : Heap, K.In base → base.Ns mainGlobals mg → FnG l.prog w K mg base 31 fa fd ["_law_script"] (spLaw K) := by
  have e := hfa.symm.trans (PySem.W.mg_of X G aLw)
  cases e
  have FWk := fun_mk (st := sWeekday) lWk cWk kWk
  have bWk := FWk.binds (ps := ["day"]) fun _ _ _ _ _ _ us hl => match us, hl with | [_], _ => rfl
  have mWk := PySem.W.mg_of X G aWk
  have FLp := fun_mk (st := sIsLeap) lLp cLp kLp
  have bLp := FLp.binds (ps := ["calendar", "year"]) fun _ _ _ _ _ _ us hl => match us, hl with | [_, _], _ => rfl
  have mLp := PySem.W.mg_of X G aLp
  have FMo := fun_mk (st := sMonthsOf) lMo cMo kMo
  have bMo := FMo.binds (ps := ["calendar", "year"]) fun _ _ _ _ _ _ us hl => match us, hl with | [_, _], _ => rfl
  have mMo := PySem.W.mg_of X G aMo
  have FFi := fun_mk (st := sFirstDay) lFi cFi kFi
  have bFi := FFi.binds (ps := ["calendar", "year"]) fun _ _ _ _ _ _ us hl => match us, hl with | [_, _], _ => rfl
  have mFi := PySem.W.mg_of X G aFi
  have FYo := fun_mk (st := sYearOf) lYo cYo kYo
  have bYo := FYo.binds (ps := ["calendar", "day"]) fun _ _ _ _ _ _ us hl => match us, hl with | [_, _], _ => rfl
  have mYo := PySem.W.mg_of X G aYo
  have FDa := fun_mk (st := sDateOf) lDa cDa kDa
  have bDa := FDa.binds (ps := ["calendar", "day"]) fun _ _ _ _ _ _ us hl => match us, hl with | [_, _], _ => rfl
  have mDa := PySem.W.mg_of X G aDa
  have FIs := fun_mk (st := sIsDay) lIs cIs kIs
  have bIs := FIs.binds (ps := ["feast", "facts", "day"]) fun _ _ _ _ _ _ us hl => match us, hl with | [_, _, _], _ => rfl
  have mIs := PySem.W.mg_of X G aIs
  have FIf := fun_mk (st := sIsFirst) lIf cIf kIf
  have bIf := FIf.binds (ps := ["feast", "facts", "day"]) fun _ _ _ _ _ _ us hl => match us, hl with | [_, _, _], _ => rfl
  have mIf := PySem.W.mg_of X G aIf
  have FFd := fun_mk (st := sFeastDays) lFd cFd kFd
  have bFd := FFd.binds (ps := ["feast", "facts", "first", "last"]) fun _ _ _ _ _ _ us hl => match us, hl with | [_, _, _, _], _ => rfl
  have mFd := PySem.W.mg_of X G aFd
  have FDo := fun_mk (st := sDaysOf) lDo cDo kDo
  have bDo := FDo.binds (ps := ["feast", "facts", "first", "last"]) fun _ _ _ _ _ _ us hl => match us, hl with | [_, _, _, _], _ => rfl
  have mDo := PySem.W.mg_of X G aDo
  have FFf := fun_mk (st := sFirstDays) lFf cFf kFf
  have bFf := FFf.binds (ps := ["feast", "facts", "first", "last"]) fun _ _ _ _ _ _ us hl => match us, hl with | [_, _, _, _], _ => rfl
  have mFf := PySem.W.mg_of X G aFf
  have FSt := fun_mk (st := sStart) lSt cSt kSt
  have bSt := FSt.binds (ps := ["_law_script"]) fun _ _ _ _ _ _ us hl => match us, hl with | [_], _ => rfl
  have mSt := PySem.W.mg_of X G aSt
  have FDr := fun_mk (st := sDraw) lDr cDr kDr
  have bDr := FDr.binds (ps := ["_law_state", "_law_bound"]) fun _ _ _ _ _ _ us hl => match us, hl with | [_, _], _ => rfl
  have mDr := PySem.W.mg_of X G aDr
  have FPi := fun_mk (st := sPick) lPi cPi kPi
  have bPi := FPi.binds (ps := ["_law_state", "_law_things"]) fun _ _ _ _ _ _ us hl => match us, hl with | [_, _], _ => rfl
  have mPi := PySem.W.mg_of X G aPi
  have FEq := fun_mk (st := sIs) lEq cEq kEq
  have bEq := FEq.binds (ps := ["_law_actual", "_law_due"]) fun _ _ _ _ _ _ us hl => match us, hl with | [_, _], _ => rfl
  have mEq := PySem.W.mg_of X G aEq
  have FLL := fun_mk (st := sLLeap) lLL cLL kLL
  have bLL := FLL.binds (ps := ["_law_calendar_here", "_law_year"]) fun _ _ _ _ _ _ us hl => match us, hl with | [_, _], _ => rfl
  have mLL := PySem.W.mg_of X G aLL
  have FLM := fun_mk (st := sLMonths) lLM cLM kLM
  have bLM := FLM.binds (ps := ["_law_calendar_here", "_law_year"]) fun _ _ _ _ _ _ us hl => match us, hl with | [_, _], _ => rfl
  have mLM := PySem.W.mg_of X G aLM
  have FLF := fun_mk (st := sLFirst) lLF cLF kLF
  have bLF := FLF.binds (ps := ["_law_calendar_here", "_law_year"]) fun _ _ _ _ _ _ us hl => match us, hl with | [_, _], _ => rfl
  have mLF := PySem.W.mg_of X G aLF
  have FLD := fun_mk (st := sLIsDate) lLD cLD kLD
  have bLD := FLD.binds (ps := ["_law_calendar_here", "_law_month", "_law_number", "_law_day"]) fun _ _ _ _ _ _ us hl => match us, hl with | [_, _, _, _], _ => rfl
  have mLD := PySem.W.mg_of X G aLD
  have FFe := fun_mk (st := sFeast) lFe cFe kFe
  have bFe := FFe.binds (ps := ["_law_state", "_law_deep"]) fun _ _ _ _ _ _ us hl => match us, hl with | [_, _], _ => rfl
  have mFe := PySem.W.mg_of X G aFe
  have FLI := fun_mk (st := sLIsDay) lLI cLI kLI
  have bLI := FLI.binds (ps := ["_law_feast_here", "_law_facts", "_law_day", "_law_known"]) fun _ _ _ _ _ _ us hl => match us, hl with | [_, _, _, _], _ => rfl
  have mLI := PySem.W.mg_of X G aLI
  have FLo := fun_mk (st := sLFind) lLo cLo kLo
  have bLo := FLo.binds (ps := ["_law_feast_here", "_law_facts", "_law_day", "_law_known"]) fun _ _ _ _ _ _ us hl => match us, hl with | [_, _, _, _], _ => rfl
  have mLo := PySem.W.mg_of X G aLo
  have FLw := fun_mk (st := sLaw) lLw cLw kLw
  have mLw := PySem.W.mg_of X G aLw
  have n_isinstance := PySem.W.mg_none_of X G z_isinstance
  have n_str := PySem.W.mg_none_of X G z_str
  have n_list := PySem.W.mg_none_of X G z_list
  have n_len := PySem.W.mg_none_of X G z_len
  have n_sum := PySem.W.mg_none_of X G z_sum
  have n_range := PySem.W.mg_none_of X G z_range
  have n_int := PySem.W.mg_none_of X G z_int
  have n_abs := PySem.W.mg_none_of X G z_abs
  have n_bool := PySem.W.mg_none_of X G z_bool
  have n_sorted := PySem.W.mg_none_of X G z_sorted
  have n_set := PySem.W.mg_none_of X G z_set
  have n_repr := PySem.W.mg_none_of X G z_repr
  have mcF := PySem.W.mg_of X G cF
  have mcB := PySem.W.mg_of X G cB
  have mcT := PySem.W.mg_of X G cT
  have mLn := PySem.W.mg_of X G aLn
  have sLn := sqT_mk lLn vLn
  refine ⟨PySem.W.fnOf "law" "law" (defArgs sLaw) (defBody sLaw) (defScope sLaw) .none kVLw dcLw pmLw anLw cdLw ctLw, fun s v => .of_eq rfl, fun base _ _ => ?_⟩
  have oWk := ok_weekday (P := l.prog) (w := w) (mg := mg) (base := base) FWk
  have oLp := ok_isLeap (P := l.prog) (w := w) (mg := mg) (base := base) FLp
  have oFi := ok_firstDay (P := l.prog) (w := w) (base := base) FFi mcF
  have oMo := ok_monthsOf FMo oLp bLp kLp mLp mLn sLn mcB n_isinstance n_str n_list
  have oYo := ok_yearOf FYo oFi bFi kFi mFi
  have oDa := ok_dateOf FDa oYo bYo kYo mYo oFi bFi kFi mFi oMo bMo kMo mMo
  have oLL := ok_lLeap (P := l.prog) (w := w) (base := base) FLL n_int
  have oLF := ok_lFirst (P := l.prog) (w := w) (mg := mg) (base := base) FLF
  have oLM := ok_lMonths FLM oLL bLL kLL mLL n_isinstance n_str
  have oLD := ok_lIsDate FLD oLM bLM kLM mLM oLF bLF kLF mLF n_range n_sum
  have oIs : ∀ (F : TN → List Int) n, FnOk l.prog w K mg base CX0 (6 + 2 * n) fIs _ ["feast", "facts", "day"] (spIsDay F n) := fun F n => all_isDay FIs FIf bIs bIf mIs mIf oWk bWk kWk mWk oDa bDa kDa mDa n_range mcT n
  have oDo : ∀ (F : TN → List Int) n, FnOk l.prog w K mg base CX0 (9 + 2 * n) fDo _ ["feast", "facts", "first", "last"] (spDaysOf F n) := fun F n => all_daysOf FDo FFf bDo bFf mDo mFf (oIs F 1) bIs kIs mIs n_range mcT n
  have oFd : ∀ (F : TN → List Int), FnOk l.prog w K mg base CX0 16 fFd _ ["feast", "facts", "first", "last"] (spFeastDays F 3) := fun F => ok_feastDays FFd (oDo F 3) bDo kDo mDo n_range
  have oDr := ok_draw (P := l.prog) (w := w) (base := base) FDr n_int n_len
  have oPi := ok_pick FPi oDr bDr kDr mDr n_len
  have oEq := ok_is (P := l.prog) (w := w) (base := base) FEq n_isinstance n_bool
  have oSt := ok_start (P := l.prog) (w := w) (base := base) FSt n_abs n_int n_len
  have oFe := all_feast FFe bFe mFe oDr bDr kDr mDr oPi bPi kPi mPi 3
  have oLI : ∀ W : Wd, FnOk l.prog w K mg base CX0 9 fLI _ pLook (spLook l.prog w W 3) := fun W => all_look FLI FLo bLI bLo mLI mLo oLD bLD kLD mLD n_int n_range 3 (by decide)
  exact ok_law FLw {
    CS := ⟨oSt.mono (by decide), bSt, kSt, mSt⟩
    CFi := ⟨oLF.mono (by decide), bLF, kLF, mLF⟩
    CD := ⟨oDr.mono (by decide), bDr, kDr, mDr⟩
    CP := ⟨oPi.mono (by decide), bPi, kPi, mPi⟩
    CFe := ⟨oFe.mono (by decide), bFe, kFe, mFe⟩
    CLk := ⟨(fn_all oLI).mono (by decide), bLI, kLI, mLI⟩
    CIs := ⟨oEq.mono (by decide), bEq, kEq, mEq⟩
    CId := ⟨(fn_all fun F => oIs F 3).mono (by decide), bIs, kIs, mIs⟩
    CFd := ⟨(fn_all oFd).mono (by decide), bFd, kFd, mFd⟩
    mr := n_range, mso := n_sorted, mse := n_set, mre := n_repr, mi := n_isinstance, ml := n_list }
end Al

open PySem PySem.W PyProof.Rows
set_option Elab.async false
set_option maxRecDepth 100000 in
set_option maxHeartbeats 0 in
theorem PySem.Challenge.cw_truealmanac_k25_whole_feasts_holds : PySem.Challenge.rw_truealmanac_k25_whole_feasts.Holds := by
  w_on; o_law; k_head; (case hw => w_witness2)
  k_fill
  refine Al.walkG (l := PySem.Challenge.rw_truealmanac_k25_whole_feasts) (n := 63) (k := 31) (x := "_law_script") (sp := fun K => Al.spLaw K) rfl (by decide) rfl ⟨rfl, by decide, by decide⟩ (fun w h Y => PySem.W.kIn_of Y) ?F (fun K H a ns hl hS => ⟨a, ns, rfl, hS, hl, fun _ => rfl⟩)
  case F =>
    intro w mg fa h KX G hmg
    refine' Al.all_mk KX G hmg ?aWk ?lWk ?cWk ?kWk ?aLp ?lLp ?cLp ?kLp ?aMo ?lMo ?cMo ?kMo ?aFi ?lFi ?cFi ?kFi ?aYo ?lYo ?cYo ?kYo ?aDa ?lDa ?cDa ?kDa ?aIs ?lIs ?cIs ?kIs ?aIf ?lIf ?cIf ?kIf ?aFd ?lFd ?cFd ?kFd ?aDo ?lDo ?cDo ?kDo ?aFf ?lFf ?cFf ?kFf ?aSt ?lSt ?cSt ?kSt ?aDr ?lDr ?cDr ?kDr ?aPi ?lPi ?cPi ?kPi ?aEq ?lEq ?cEq ?kEq ?aLL ?lLL ?cLL ?kLL ?aLM ?lLM ?cLM ?kLM ?aLF ?lLF ?cLF ?kLF ?aLD ?lLD ?cLD ?kLD ?aFe ?lFe ?cFe ?kFe ?aLI ?lLI ?cLI ?kLI ?aLo ?lLo ?cLo ?kLo ?aLw ?lLw ?cLw ?kLw ?z_isinstance ?z_str ?z_list ?z_len ?z_sum ?z_range ?z_int ?z_abs ?z_bool ?z_sorted ?z_set ?z_repr ?cF ?cB ?cT ?aLn ?lLn ?vLn
    (case aWk => k_is)
    (case lWk => k_is)
    (case cWk => k_is)
    (case kWk => k_is)
    (case aLp => k_is)
    (case lLp => k_is)
    (case cLp => k_is)
    (case kLp => k_is)
    (case aMo => k_is)
    (case lMo => k_is)
    (case cMo => k_is)
    (case kMo => k_is)
    (case aFi => k_is)
    (case lFi => k_is)
    (case cFi => k_is)
    (case kFi => k_is)
    (case aYo => k_is)
    (case lYo => k_is)
    (case cYo => k_is)
    (case kYo => k_is)
    (case aDa => k_is)
    (case lDa => k_is)
    (case cDa => k_is)
    (case kDa => k_is)
    (case aIs => k_is)
    (case lIs => k_is)
    (case cIs => k_is)
    (case kIs => k_is)
    (case aIf => k_is)
    (case lIf => k_is)
    (case cIf => k_is)
    (case kIf => k_is)
    (case aFd => k_is)
    (case lFd => k_is)
    (case cFd => k_is)
    (case kFd => k_is)
    (case aDo => k_is)
    (case lDo => k_is)
    (case cDo => k_is)
    (case kDo => k_is)
    (case aFf => k_is)
    (case lFf => k_is)
    (case cFf => k_is)
    (case kFf => k_is)
    (case aSt => k_is)
    (case lSt => k_is)
    (case cSt => k_is)
    (case kSt => k_is)
    (case aDr => k_is)
    (case lDr => k_is)
    (case cDr => k_is)
    (case kDr => k_is)
    (case aPi => k_is)
    (case lPi => k_is)
    (case cPi => k_is)
    (case kPi => k_is)
    (case aEq => k_is)
    (case lEq => k_is)
    (case cEq => k_is)
    (case kEq => k_is)
    (case aLL => k_is)
    (case lLL => k_is)
    (case cLL => k_is)
    (case kLL => k_is)
    (case aLM => k_is)
    (case lLM => k_is)
    (case cLM => k_is)
    (case kLM => k_is)
    (case aLF => k_is)
    (case lLF => k_is)
    (case cLF => k_is)
    (case kLF => k_is)
    (case aLD => k_is)
    (case lLD => k_is)
    (case cLD => k_is)
    (case kLD => k_is)
    (case aFe => k_is)
    (case lFe => k_is)
    (case cFe => k_is)
    (case kFe => k_is)
    (case aLI => k_is)
    (case lLI => k_is)
    (case cLI => k_is)
    (case kLI => k_is)
    (case aLo => k_is)
    (case lLo => k_is)
    (case cLo => k_is)
    (case kLo => k_is)
    (case aLw => k_is)
    (case lLw => k_is)
    (case cLw => k_is)
    (case kLw => k_is)
    (case z_isinstance => k_is)
    (case z_str => k_is)
    (case z_list => k_is)
    (case z_len => k_is)
    (case z_sum => k_is)
    (case z_range => k_is)
    (case z_int => k_is)
    (case z_abs => k_is)
    (case z_bool => k_is)
    (case z_sorted => k_is)
    (case z_set => k_is)
    (case z_repr => k_is)
    (case cF => k_is)
    (case cB => k_is)
    (case cT => k_is)
    (case aLn => k_is)
    (case lLn => k_is)
    (case vLn => exact rfl)
