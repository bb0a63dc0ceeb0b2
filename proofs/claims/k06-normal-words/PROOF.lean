import PyProof.Rows.All
import Wide.All
import OpenK.AllK
import Wide.FinOn
import HandS.ForMost
import HandS.Walk
import HandS.Evl
import HandS.Slots
import HandS.SlotsOwn
import HandS.ClsMeth
import HandS.Star
import HandS.Zip
import HandS.TupAny
import HandS.TupMul
import HandS.Flow
import HandS.Wide
import HandS.IsInst
import HandS.Conv
import KE.GoesEnum
import KE.DatumOrd
import HandS.AnyAll
import HandS.GenList
import HandS.EndTab
import HandS.Defaults
import KE.KStateDown
import HandS.More
import HandS.WordsExc
import HandS.Head0
import HandS.Head1
import HandS.Head2
import HandS.HeadEnd
import HandS.HeadHook1
import HandS.HeadHook2
import HandS.HeadHook3
import HandS.HeadHook4
import HandS.HeadNt
import HandS.HeadWalk
import PySem.Challenge.RW_underwords_k06_whole_normal_words_by_roo
set_option Elab.async false
set_option linter.all false
set_option maxRecDepth 100000
set_option maxHeartbeats 0
namespace UW

/-- a + b * phi with phi * phi = phi + 1 -/
structure Gd where
  a : Int
  b : Int
deriving DecidableEq, Repr

namespace Gd
instance : Zero Gd := ⟨⟨0, 0⟩⟩
instance : One Gd := ⟨⟨1, 0⟩⟩
instance : Add Gd := ⟨fun x y => ⟨x.a + y.a, x.b + y.b⟩⟩
instance : Neg Gd := ⟨fun x => ⟨-x.a, -x.b⟩⟩
instance : Sub Gd := ⟨fun x y => ⟨x.a - y.a, x.b - y.b⟩⟩
instance : Mul Gd := ⟨fun x y => ⟨x.a * y.a + x.b * y.b, x.a * y.b + x.b * y.a + x.b * y.b⟩⟩

theorem ext' {x y : Gd} (h : x.a = y.a) (h' : x.b = y.b) : x = y := by
  cases x; cases y; simp_all
@[simp] theorem zero_a : (0 : Gd).a = 0 := rfl
@[simp] theorem zero_b : (0 : Gd).b = 0 := rfl
@[simp] theorem one_a : (1 : Gd).a = 1 := rfl
@[simp] theorem one_b : (1 : Gd).b = 0 := rfl
@[simp] theorem add_a (x y : Gd) : (x + y).a = x.a + y.a := rfl
@[simp] theorem add_b (x y : Gd) : (x + y).b = x.b + y.b := rfl
@[simp] theorem neg_a (x : Gd) : (-x).a = -x.a := rfl
@[simp] theorem neg_b (x : Gd) : (-x).b = -x.b := rfl
@[simp] theorem sub_a (x y : Gd) : (x - y).a = x.a - y.a := rfl
@[simp] theorem sub_b (x y : Gd) : (x - y).b = x.b - y.b := rfl
@[simp] theorem mul_a (x y : Gd) : (x * y).a = x.a * y.a + x.b * y.b := rfl
@[simp] theorem mul_b (x y : Gd) : (x * y).b = x.a * y.b + x.b * y.a + x.b * y.b := rfl

theorem add_assoc (x y z : Gd) : x + y + z = x + (y + z) := by apply ext' <;> simp <;> omega
theorem add_comm (x y : Gd) : x + y = y + x := by apply ext' <;> simp <;> omega
theorem add_zero (x : Gd) : x + 0 = x := by apply ext' <;> simp
theorem zero_add (x : Gd) : 0 + x = x := by apply ext' <;> simp
theorem neg_add (x : Gd) : -x + x = 0 := by apply ext' <;> simp <;> omega
theorem mul_comm (x y : Gd) : x * y = y * x := by apply ext' <;> simp <;> grind
theorem mul_assoc (x y z : Gd) : x * y * z = x * (y * z) := by apply ext' <;> simp <;> grind
theorem mul_one (x : Gd) : x * 1 = x := by apply ext' <;> simp
theorem one_mul (x : Gd) : 1 * x = x := by apply ext' <;> simp
theorem mul_add (x y z : Gd) : x * (y + z) = x * y + x * z := by apply ext' <;> simp <;> grind
theorem add_mul (x y z : Gd) : (x + y) * z = x * z + y * z := by apply ext' <;> simp <;> grind
theorem mul_zero (x : Gd) : x * 0 = 0 := by apply ext' <;> simp
theorem zero_mul (x : Gd) : 0 * x = 0 := by apply ext' <;> simp

instance : Lean.Grind.Semiring Gd where
  nsmul := ⟨fun n x => ⟨n * x.a, n * x.b⟩⟩
  npow := ⟨fun x n => Nat.rec 1 (fun _ y => y * x) n⟩
  natCast := ⟨fun n => ⟨n, 0⟩⟩
  ofNat := fun n => ⟨⟨n, 0⟩⟩
  add_zero := add_zero
  add_comm := add_comm
  add_assoc := add_assoc
  mul_assoc := mul_assoc
  mul_one := mul_one
  one_mul := one_mul
  left_distrib := mul_add
  right_distrib := add_mul
  zero_mul := zero_mul
  mul_zero := mul_zero
  pow_zero := fun _ => rfl
  pow_succ := fun _ _ => rfl
  ofNat_succ := fun n => by
    apply ext'
    · show ((n + 1 : Nat) : Int) = (n : Int) + 1; simp
    · show (0 : Int) = 0 + 0; simp
  ofNat_eq_natCast := fun _ => rfl
  nsmul_eq_natCast_mul := fun n x => by
    apply ext'
    · show (n : Int) * x.a = (n : Int) * x.a + 0 * x.b; simp
    · show (n : Int) * x.b = (n : Int) * x.b + 0 * x.a + 0 * x.b; simp

instance : Lean.Grind.CommRing Gd where
  neg_add_cancel := neg_add
  sub_eq_add_neg := fun x y => by apply ext' <;> simp <;> omega
  zsmul := ⟨fun n x => ⟨n * x.a, n * x.b⟩⟩
  intCast := ⟨fun n => ⟨n, 0⟩⟩
  neg_zsmul := fun n x => by
    apply ext'
    · show (-n : Int) * x.a = -(n * x.a); grind
    · show (-n : Int) * x.b = -(n * x.b); grind
  zsmul_natCast_eq_nsmul := fun _ _ => rfl
  intCast_ofNat := fun _ => rfl
  intCast_neg := fun _ => rfl
  mul_comm := mul_comm

example (x y z : Gd) : (x + y) * (x - y) + z = x * x - y * y + z := by grind

/-- times phi -/
def ph (x : Gd) : Gd := ⟨x.b, x.a + x.b⟩
@[simp] theorem ph_a (x : Gd) : (ph x).a = x.b := rfl
@[simp] theorem ph_b (x : Gd) : (ph x).b = x.a + x.b := rfl
def phs : Nat → Gd → Gd
  | 0, x => x
  | n + 1, x => phs n (ph x)

def Sq (x : Gd) : Prop := 0 ≤ x.a ∧ 0 ≤ x.b

theorem Sq.ph {x : Gd} (h : Sq x) : Sq (ph x) := by
  unfold Sq at *; simp; omega
theorem Sq.add {x y : Gd} (h : Sq x) (h' : Sq y) : Sq (x + y) := by
  unfold Sq at *; simp; omega
theorem Sq.mul {x y : Gd} (h : Sq x) (h' : Sq y) : Sq (x * y) := by
  unfold Sq at *
  have h1 := Int.mul_nonneg h.1 h'.1
  have h2 := Int.mul_nonneg h.1 h'.2
  have h3 := Int.mul_nonneg h.2 h'.1
  have h4 := Int.mul_nonneg h.2 h'.2
  simp; omega
theorem Sq.phs {x : Gd} (h : Sq x) (n : Nat) : Sq (phs n x) := by
  induction n generalizing x with
  | zero => exact h
  | succ n ih => exact ih h.ph

theorem ph_add (x y : Gd) : ph (x + y) = ph x + ph y := by apply ext' <;> simp <;> omega
theorem ph_neg (x : Gd) : ph (-x) = -ph x := by apply ext' <;> simp <;> omega
theorem ph_mul (x y : Gd) : ph (x * y) = ph x * y := by apply ext' <;> simp <;> grind
theorem phs_add (n : Nat) (x y : Gd) : phs n (x + y) = phs n x + phs n y := by
  induction n generalizing x y with
  | zero => rfl
  | succ n ih => simp only [phs, ph_add, ih]
theorem phs_neg (n : Nat) (x : Gd) : phs n (-x) = -phs n x := by
  induction n generalizing x with
  | zero => rfl
  | succ n ih => simp only [phs, ph_neg, ih]
theorem phs_mul (n : Nat) (x y : Gd) : phs n (x * y) = phs n x * y := by
  induction n generalizing x y with
  | zero => rfl
  | succ n ih => simp only [phs, ph_mul, ih]
theorem phs_phs (n m : Nat) (x : Gd) : phs n (phs m x) = phs (m + n) x := by
  induction m generalizing x with
  | zero => simp [phs]
  | succ m ih => rw [Nat.add_right_comm]; simp only [phs, ih]
theorem ph_zero {x : Gd} (h : ph x = 0) : x = 0 := by
  have h1 : (ph x).a = 0 := by rw [h]; rfl
  have h2 : (ph x).b = 0 := by rw [h]; rfl
  simp at h1 h2
  apply ext' <;> simp <;> omega
theorem phs_zero {n : Nat} {x : Gd} (h : phs n x = 0) : x = 0 := by
  induction n generalizing x with
  | zero => exact h
  | succ n ih => exact ph_zero (ih h)

/-- not below zero -/
def nn (x : Gd) : Prop := ∃ n, Sq (phs n x)

theorem Sq.nn {x : Gd} (h : Sq x) : nn x := ⟨0, h⟩
theorem nn_zero : nn 0 := Sq.nn ⟨by simp, by simp⟩
theorem nn_one : nn 1 := Sq.nn ⟨by simp, by simp⟩
theorem nn.add {x y : Gd} (h : nn x) (h' : nn y) : nn (x + y) := by
  obtain ⟨n, hn⟩ := h
  obtain ⟨m, hm⟩ := h'
  refine ⟨n + m, ?_⟩
  rw [phs_add]
  refine Sq.add ?_ ?_
  · rw [← phs_phs]; exact hn.phs m
  · rw [Nat.add_comm, ← phs_phs]; exact hm.phs n
theorem nn.mul {x y : Gd} (h : nn x) (h' : nn y) : nn (x * y) := by
  obtain ⟨n, hn⟩ := h
  obtain ⟨m, hm⟩ := h'
  refine ⟨n + m, ?_⟩
  rw [← phs_phs, phs_mul, mul_comm, phs_mul]
  exact hm.mul hn
theorem nn.anti {x : Gd} (h : nn x) (h' : nn (-x)) : x = 0 := by
  obtain ⟨n, hn⟩ := h
  obtain ⟨m, hm⟩ := h'
  have h1 : Sq (phs (n + m) x) := by rw [← phs_phs]; exact hn.phs m
  have h2 : Sq (phs (n + m) (-x)) := by rw [Nat.add_comm, ← phs_phs]; exact hm.phs n
  rw [phs_neg] at h2
  apply phs_zero (n := n + m)
  unfold Sq at h1 h2
  simp at h1 h2
  apply ext' <;> simp <;> omega
theorem nn_total (x : Gd) : nn x ∨ nn (-x) := by
  generalize hk : x.a.natAbs + x.b.natAbs = k
  induction k using Nat.strongRecOn generalizing x with
  | _ k ih =>
    by_cases h : Sq x
    · exact .inl h.nn
    by_cases h' : Sq (-x)
    · exact .inr h'.nn
    have hh : Sq (ph x) ∨ Sq (-ph x) ∨ (ph x).a.natAbs + (ph x).b.natAbs < k := by
      unfold Sq at *; simp at *; omega
    have back : ∀ y, nn (ph y) → nn y := fun y ⟨n, hn⟩ => ⟨n + 1, hn⟩
    rcases hh with hh | hh | hh
    · exact .inl (back _ hh.nn)
    · exact .inr (back _ (by rw [ph_neg]; exact hh.nn))
    · rcases ih _ hh (ph x) rfl with h1 | h1
      · exact .inl (back _ h1)
      · exact .inr (back _ (by rw [ph_neg]; exact h1))
/-- no divisors of zero -/
theorem mul_eq_zero {x y : Gd} (h : x * y = 0) : x = 0 ∨ y = 0 := by
  have key : ∀ x y : Gd, nn x → nn y → x * y = 0 → x = 0 ∨ y = 0 := by
    intro x y ⟨n, hn⟩ ⟨m, hm⟩ h
    have e : phs n x * phs m y = 0 := by
      rw [← phs_mul, mul_comm, ← phs_mul, mul_comm, h]
      have : phs n (phs m 0) = 0 := by
        have z : ∀ k, phs k 0 = 0 := by
          intro k
          induction k with
          | zero => rfl
          | succ k ih => exact ih
        rw [z, z]
      exact this
    have e1 : (phs n x).a * (phs m y).a + (phs n x).b * (phs m y).b = 0 := by
      rw [← mul_a, e]; rfl
    have e2 : (phs n x).a * (phs m y).b + (phs n x).b * (phs m y).a + (phs n x).b * (phs m y).b = 0 := by
      rw [← mul_b, e]; rfl
    have h1 := Int.mul_nonneg hn.1 hm.1
    have h2 := Int.mul_nonneg hn.1 hm.2
    have h3 := Int.mul_nonneg hn.2 hm.1
    have h4 := Int.mul_nonneg hn.2 hm.2
    have a1 : (phs n x).a * (phs m y).a = 0 := by omega
    have a2 : (phs n x).a * (phs m y).b = 0 := by omega
    have a3 : (phs n x).b * (phs m y).a = 0 := by omega
    have a4 : (phs n x).b * (phs m y).b = 0 := by omega
    rw [Int.mul_eq_zero] at a1 a2 a3 a4
    by_cases hx : (phs n x).a = 0 ∧ (phs n x).b = 0
    · exact .inl (phs_zero (ext' hx.1 hx.2))
    · refine .inr (phs_zero (n := m) (ext' ?_ ?_))
      · simp; omega
      · simp; omega
  have neg0 : ∀ z : Gd, -z = 0 → z = 0 := by
    intro z hz
    have h1 : (-z).a = 0 := by rw [hz]; rfl
    have h2 : (-z).b = 0 := by rw [hz]; rfl
    simp at h1 h2
    exact ext' h1 h2
  have e1 : -x * y = 0 := by grind
  have e2 : x * -y = 0 := by grind
  have e3 : -x * -y = 0 := by grind
  rcases nn_total x with hx | hx <;> rcases nn_total y with hy | hy
  · exact key _ _ hx hy h
  · exact (key _ _ hx hy e2).imp id (neg0 _)
  · exact (key _ _ hx hy e1).imp (neg0 _) id
  · exact (key _ _ hx hy e3).imp (neg0 _) (neg0 _)

/-- the program's test -/
def isBelow (x : Gd) : Bool :=
  if 0 ≤ x.a ∧ 0 ≤ x.b then false
  else if x.a ≤ 0 ∧ x.b ≤ 0 then true
  else
    let h : Int := x.a.natAbs
    let l : Int := x.b.natAbs
    let q := h * h - h * l - l * l
    if x.a < 0 then decide (0 < q) else decide (q < 0)

/-- the law's test -/
def isLow (x : Gd) : Bool :=
  let t := 2 * x.a + x.b
  (decide (t < 0) && (decide (x.b ≤ 0) || decide (5 * x.b * x.b < t * t))) ||
  (decide (0 ≤ t) && decide (x.b < 0) && decide (t * t < 5 * x.b * x.b))

def nrm (x : Gd) : Int := x.a * x.a + x.a * x.b - x.b * x.b
theorem nrm_ph (x : Gd) : nrm (ph x) = - nrm x := by
  unfold nrm; simp; grind

theorem isBelow_iff (x : Gd) : isBelow x = true ↔
    ¬ (0 ≤ x.a ∧ 0 ≤ x.b) ∧ ((x.a ≤ 0 ∧ x.b ≤ 0) ∨ (x.a < 0 ∧ 0 < nrm x) ∨ (0 < x.a ∧ nrm x < 0)) := by
  unfold isBelow
  split
  · simp_all
  · next h =>
    split
    · simp_all
    · next h' =>
      have ab : (x.a < 0 ∧ 0 < x.b) ∨ (0 < x.a ∧ x.b < 0) := by omega
      have e : ((x.a.natAbs : Int) * (x.a.natAbs : Int) - (x.a.natAbs : Int) * (x.b.natAbs : Int) - (x.b.natAbs : Int) * (x.b.natAbs : Int)) = nrm x := by
        unfold nrm
        rcases ab with ⟨p, q⟩ | ⟨p, q⟩
        · have e1 : (x.a.natAbs : Int) = -x.a := by omega
          have e2 : (x.b.natAbs : Int) = x.b := by omega
          rw [e1, e2]; grind
        · have e1 : (x.a.natAbs : Int) = x.a := by omega
          have e2 : (x.b.natAbs : Int) = -x.b := by omega
          rw [e1, e2]; grind
      simp only [e]
      split
      · simp; omega
      · simp; omega

theorem isBelow_ph (x : Gd) : isBelow (ph x) = isBelow x := by
  rw [Bool.eq_iff_iff, isBelow_iff, isBelow_iff, nrm_ph]
  simp only [ph_a, ph_b]
  have f1 : x.a < 0 → 0 < x.b → 0 ≤ x.a + x.b → nrm x ≤ 0 := by
    intro h1 h2 h3
    have k1 : x.a * (x.a + x.b) ≤ 0 := Int.mul_nonpos_of_nonpos_of_nonneg (by omega) h3
    have k2 : 0 ≤ x.b * x.b := Int.mul_nonneg (by omega) (by omega)
    have : nrm x = x.a * (x.a + x.b) - x.b * x.b := by unfold nrm; grind
    omega
  have f2 : 0 < x.a → x.b < 0 → x.a + x.b ≤ 0 → nrm x < 0 := by
    intro h1 h2 h3
    have k1 : x.a * (x.a + x.b) ≤ 0 := Int.mul_nonpos_of_nonneg_of_nonpos (by omega) h3
    have k2 : 0 < x.b * x.b := Int.mul_pos_of_neg_of_neg h2 h2
    have : nrm x = x.a * (x.a + x.b) - x.b * x.b := by unfold nrm; grind
    omega
  have f3 : x.a = 0 → nrm x = -(x.b * x.b) := by
    intro h; unfold nrm; rw [h]; grind
  have f4 : x.b = 0 → nrm x = (x.a * x.a) := by
    intro h; unfold nrm; rw [h]; grind
  have f5 : 0 < x.a → 0 < x.a * x.a := fun h => Int.mul_pos h h
  have f6 : x.a < 0 → 0 < x.a * x.a := fun h => Int.mul_pos_of_neg_of_neg h h
  have f7 : 0 < x.b → 0 < x.b * x.b := fun h => Int.mul_pos h h
  have f8 : x.b < 0 → 0 < x.b * x.b := fun h => Int.mul_pos_of_neg_of_neg h h
  omega

theorem isBelow_nn (x : Gd) : isBelow x = true ↔ ¬ nn x := by
  have back : ∀ n (y : Gd), isBelow (phs n y) = isBelow y := by
    intro n
    induction n with
    | zero => intro y; rfl
    | succ n ih => intro y; simp only [phs, ih, isBelow_ph]
  constructor
  · intro h ⟨n, hn⟩
    rw [← back n, isBelow_iff] at h
    exact h.1 hn
  · intro h
    rcases nn_total x with h' | ⟨n, hn⟩
    · exact absurd h' h
    · rw [← back n, isBelow_iff]
      rw [phs_neg] at hn
      refine ⟨fun hs => h ⟨n, hs⟩, .inl ?_⟩
      unfold Sq at hn
      simp at hn
      omega

theorem isLow_eq (x : Gd) : isLow x = isBelow x := by
  rw [Bool.eq_iff_iff, isBelow_iff]
  unfold isLow
  simp only [Bool.or_eq_true, Bool.and_eq_true, decide_eq_true_eq]
  have e : (2 * x.a + x.b) * (2 * x.a + x.b) - 5 * x.b * x.b = 4 * nrm x := by unfold nrm; grind
  generalize hp : (2 * x.a + x.b) * (2 * x.a + x.b) = P at *
  generalize hq : 5 * x.b * x.b = Q at *
  have e0 : nrm x = x.a * (x.a + x.b) - x.b * x.b := by unfold nrm; grind
  have f5 : 0 < x.a → 0 < x.a * x.a := fun h => Int.mul_pos h h
  have f1 : x.a < 0 → 0 < x.b → 0 ≤ 2 * x.a + x.b → nrm x < 0 := by
    intro h1 h2 h3
    have k1 : x.a * (x.a + x.b) ≤ 0 := Int.mul_nonpos_of_nonpos_of_nonneg (by omega) (by omega)
    have k2 : 0 < x.b * x.b := Int.mul_pos h2 h2
    omega
  have f2 : 0 < x.a → x.b < 0 → 2 * x.a + x.b < 0 → nrm x < 0 := by
    intro h1 h2 h3
    have k1 : x.a * (x.a + x.b) ≤ 0 := Int.mul_nonpos_of_nonneg_of_nonpos (by omega) (by omega)
    have k2 : 0 < x.b * x.b := Int.mul_pos_of_neg_of_neg h2 h2
    omega
  have f3 : x.a = 0 → nrm x = -(x.b * x.b) := by
    intro h; unfold nrm; rw [h]; grind
  have f4 : x.b = 0 → nrm x = (x.a * x.a) := by
    intro h; unfold nrm; rw [h]; grind
  have f6 : x.a < 0 → 0 < x.a * x.a := fun h => Int.mul_pos_of_neg_of_neg h h
  have f7 : 0 < x.b → 0 < x.b * x.b := fun h => Int.mul_pos h h
  have f8 : x.b < 0 → 0 < x.b * x.b := fun h => Int.mul_pos_of_neg_of_neg h h
  have f9 : x.a < 0 → x.b < 0 → 0 < x.a * x.b := fun h h' => Int.mul_pos_of_neg_of_neg h h'
  omega
end Gd
end UW
namespace UW
open Gd

abbrev Vec := Nat → Gd

def sumN : Nat → (Nat → Gd) → Gd
  | 0, _ => 0
  | n + 1, f => sumN n f + f n

theorem sumN_congr {n : Nat} {f g : Nat → Gd} (h : ∀ j, j < n → f j = g j) : sumN n f = sumN n g := by
  induction n with
  | zero => rfl
  | succ n ih =>
    simp only [sumN]
    rw [ih (fun j hj => h j (by omega)), h n (by omega)]
theorem sumN_add (n : Nat) (f g : Nat → Gd) : sumN n (fun j => f j + g j) = sumN n f + sumN n g := by
  induction n with
  | zero => simp only [sumN]; grind
  | succ n ih => simp only [sumN, ih]; grind
theorem sumN_mul (n : Nat) (r : Gd) (f : Nat → Gd) : sumN n (fun j => r * f j) = r * sumN n f := by
  induction n with
  | zero => simp only [sumN]; grind
  | succ n ih => simp only [sumN, ih]; grind
theorem sumN_zero (n : Nat) : sumN n (fun _ => 0) = 0 := by
  induction n with
  | zero => rfl
  | succ n ih => simp only [sumN, ih]; grind
theorem sumN_zero' {n : Nat} {f : Nat → Gd} (h : ∀ j, j < n → f j = 0) : sumN n f = 0 := by
  rw [sumN_congr h, sumN_zero]
theorem sumN_one {n : Nat} {f : Nat → Gd} (i : Nat) (hi : i < n) (h : ∀ j, j < n → j ≠ i → f j = 0) : sumN n f = f i := by
  induction n with
  | zero => omega
  | succ n ih =>
    simp only [sumN]
    by_cases e : i = n
    · subst e
      rw [sumN_zero' (fun j hj => h j (by omega) (by omega))]; grind
    · rw [ih (by omega) (fun j hj => h j (by omega)), h n (by omega) (by omega)]; grind

def vadd (x y : Vec) : Vec := fun k => x k + y k
def vmul (r : Gd) (x : Vec) : Vec := fun k => r * x k
def ev (k : Nat) : Vec := fun j => if j = k then 1 else 0

theorem ev_self (k : Nat) : ev k k = 1 := by simp [ev]
theorem ev_ne {k j : Nat} (h : j ≠ k) : ev k j = 0 := by simp [ev, h]

def act (n : Nat) (c : Nat → Nat → Gd) (l : Nat) (x : Vec) : Vec :=
  fun k => if k = l then -x l + sumN n (fun j => c l j * x j) else x k

def run (n : Nat) (c : Nat → Nat → Gd) (w : List Nat) (x : Vec) : Vec :=
  w.foldl (fun x l => act n c l x) x

section
variable {n : Nat} {c : Nat → Nat → Gd}

theorem act_add (l : Nat) (x y : Vec) : act n c l (vadd x y) = vadd (act n c l x) (act n c l y) := by
  funext k
  unfold act vadd
  by_cases h : k = l
  · simp only [h, if_true]
    have : sumN n (fun j => c l j * (x j + y j)) = sumN n (fun j => c l j * x j) + sumN n (fun j => c l j * y j) := by
      rw [← sumN_add]
      apply sumN_congr; intro j _; grind
    rw [this]; grind
  · simp only [h, if_false]
theorem act_mul (l : Nat) (r : Gd) (x : Vec) : act n c l (vmul r x) = vmul r (act n c l x) := by
  funext k
  unfold act vmul
  by_cases h : k = l
  · simp only [h, if_true]
    have : sumN n (fun j => c l j * (r * x j)) = r * sumN n (fun j => c l j * x j) := by
      rw [← sumN_mul]
      apply sumN_congr; intro j _; grind
    rw [this]; grind
  · simp only [h, if_false]

@[simp] theorem run_nil (x : Vec) : run n c [] x = x := rfl
@[simp] theorem run_cons (l : Nat) (w : List Nat) (x : Vec) : run n c (l :: w) x = run n c w (act n c l x) := rfl
theorem run_append (u w : List Nat) (x : Vec) : run n c (u ++ w) x = run n c w (run n c u x) := by
  unfold run; rw [List.foldl_append]
theorem run_add (w : List Nat) (x y : Vec) : run n c w (vadd x y) = vadd (run n c w x) (run n c w y) := by
  induction w generalizing x y with
  | nil => rfl
  | cons l w ih => simp only [run_cons, act_add, ih]
theorem run_mul (w : List Nat) (r : Gd) (x : Vec) : run n c w (vmul r x) = vmul r (run n c w x) := by
  induction w generalizing x with
  | nil => rfl
  | cons l w ih => simp only [run_cons, act_mul, ih]

/-- the allowed pairs of factors -/
def Bond (p q : Gd) : Prop :=
  (p = 0 ∧ q = 0) ∨ (p = 1 ∧ q = 1) ∨ (p = 1 ∧ q = ⟨2, 0⟩) ∨ (p = ⟨2, 0⟩ ∧ q = 1) ∨ (p = ⟨0, 1⟩ ∧ q = ⟨0, 1⟩) ∨
  (p = 1 ∧ q = ⟨3, 0⟩) ∨ (p = ⟨3, 0⟩ ∧ q = 1) ∨ (p = ⟨2, 0⟩ ∧ q = ⟨2, 0⟩)

structure Sys (n : Nat) (c : Nat → Nat → Gd) : Prop where
  diag : ∀ s, s < n → c s s = 0
  bond : ∀ s t, s < n → t < n → s ≠ t → Bond (c s t) (c t s)

theorem act_act (S : Sys n c) {l : Nat} (hl : l < n) (x : Vec) : act n c l (act n c l x) = x := by
  funext k
  by_cases h : k = l
  · subst h
    have e : sumN n (fun j => c k j * act n c k x j) = sumN n (fun j => c k j * x j) := by
      apply sumN_congr
      intro j _
      by_cases hj : j = k
      · subst hj; rw [S.diag j hl]; grind
      · simp only [act, hj, if_false]
    show (if k = k then -act n c k x k + sumN n (fun j => c k j * act n c k x j) else _) = x k
    rw [e]
    simp only [act, if_true]; grind
  · simp only [act, h, if_false]

theorem act_ev_self (S : Sys n c) {l : Nat} (hl : l < n) : act n c l (ev l) = vmul (-1) (ev l) := by
  funext k
  by_cases h : k = l
  · subst h
    have e : sumN n (fun j => c k j * ev k j) = 0 := by
      apply sumN_zero'
      intro j _
      by_cases hj : j = k
      · subst hj; rw [S.diag j hl]; grind
      · simp only [ev, hj, if_false]; grind
    simp only [act, if_true, e, vmul, ev_self]; grind
  · simp only [act, h, if_false, vmul, ev]; grind

theorem act_ev_ne {l k : Nat} (hk : k < n) (h : k ≠ l) : act n c l (ev k) = vadd (ev k) (vmul (c l k) (ev l)) := by
  funext j
  by_cases hj : j = l
  · subst hj
    have e : sumN n (fun i => c j i * ev k i) = c j k := by
      rw [sumN_one k hk]
      · simp [ev]; grind
      · intro i _ hi; simp [ev, hi]; grind
    simp only [act, if_true, e, vadd, vmul, ev_self, ev_ne (fun e => h e.symm : j ≠ k)]; grind
  · simp only [act, hj, if_false, vadd, vmul, ev]; grind

def ok (n : Nat) (w : List Nat) : Prop := ∀ a, a ∈ w → a < n
theorem ok.cons {a : Nat} {w : List Nat} (ha : a < n) (h : ok n w) : ok n (a :: w) := by
  intro b hb; rcases List.mem_cons.mp hb with e | e
  · omega
  · exact h b e
theorem ok.append {u w : List Nat} (h : ok n u) (h' : ok n w) : ok n (u ++ w) := by
  intro b hb; rcases List.mem_append.mp hb with e | e
  · exact h b e
  · exact h' b e
theorem ok_nil : ok n [] := by intro a h; cases h
theorem ok.left {u w : List Nat} (h : ok n (u ++ w)) : ok n u := fun a ha => h a (List.mem_append.mpr (.inl ha))
theorem ok.right {u w : List Nat} (h : ok n (u ++ w)) : ok n w := fun a ha => h a (List.mem_append.mpr (.inr ha))
theorem ok.head {a : Nat} {w : List Nat} (h : ok n (a :: w)) : a < n := h a (by simp)
theorem ok.tail {a : Nat} {w : List Nat} (h : ok n (a :: w)) : ok n w := fun b hb => h b (by simp [hb])
theorem ok.reverse {w : List Nat} (h : ok n w) : ok n w.reverse := fun b hb => h b (by simpa using hb)

def Eqv (n : Nat) (c : Nat → Nat → Gd) (w w' : List Nat) : Prop := ∀ x, run n c w x = run n c w' x
theorem Eqv.refl (w : List Nat) : Eqv n c w w := fun _ => rfl
theorem Eqv.symm {w w' : List Nat} (h : Eqv n c w w') : Eqv n c w' w := fun x => (h x).symm
theorem Eqv.trans {w w' w'' : List Nat} (h : Eqv n c w w') (h' : Eqv n c w' w'') : Eqv n c w w'' := fun x => (h x).trans (h' x)
theorem Eqv.app {u u' w w' : List Nat} (h : Eqv n c u u') (h' : Eqv n c w w') : Eqv n c (u ++ w) (u' ++ w') := by
  intro x; rw [run_append, run_append, h x, h' _]
theorem Eqv.cons {w w' : List Nat} (a : Nat) (h : Eqv n c w w') : Eqv n c (a :: w) (a :: w') := fun x => h _
theorem Eqv.twice (S : Sys n c) {a : Nat} (ha : a < n) (w : List Nat) : Eqv n c (a :: a :: w) w := by
  intro x; simp only [run_cons, act_act S ha]
theorem Eqv.mid (S : Sys n c) {a : Nat} (ha : a < n) (u w : List Nat) : Eqv n c (u ++ a :: a :: w) (u ++ w) :=
  Eqv.app (Eqv.refl u) (Eqv.twice S ha w)
theorem Eqv.move (S : Sys n c) {a : Nat} (ha : a < n) {u w : List Nat} (h : Eqv n c (a :: u) w) : Eqv n c u (a :: w) :=
  ((Eqv.twice S ha u).symm.trans (h.cons a))
theorem Eqv.rev (S : Sys n c) {w : List Nat} (h : ok n w) : Eqv n c (w.reverse ++ w) [] := by
  induction w with
  | nil => exact Eqv.refl _
  | cons a w ih =>
    rw [List.reverse_cons, List.append_assoc]
    exact (Eqv.mid S h.head _ _).trans (ih h.tail)
theorem Eqv.rev' (S : Sys n c) {w : List Nat} (h : ok n w) : Eqv n c (w ++ w.reverse) [] := by
  have := Eqv.rev S h.reverse
  rwa [List.reverse_reverse] at this

/-- no shorter word for the same member -/
def Rd (n : Nat) (c : Nat → Nat → Gd) (w : List Nat) : Prop :=
  ok n w ∧ ∀ v, ok n v → Eqv n c v w → w.length ≤ v.length

theorem exists_rd (w : List Nat) (h : ok n w) : ∃ v, Rd n c v ∧ Eqv n c v w := by
  generalize hk : w.length = k
  induction k using Nat.strongRecOn generalizing w with
  | _ k ih =>
    by_cases hr : Rd n c w
    · exact ⟨w, hr, Eqv.refl w⟩
    · have : ∃ v, ok n v ∧ Eqv n c v w ∧ v.length < w.length := by
        apply Classical.byContradiction
        intro hno
        apply hr
        refine ⟨h, fun v hv he => ?_⟩
        apply Classical.byContradiction
        intro hlt
        exact hno ⟨v, hv, he, by omega⟩
      obtain ⟨v, hv, he, hlt⟩ := this
      obtain ⟨v', r, e'⟩ := ih v.length (by omega) v hv rfl
      exact ⟨v', r, e'.trans he⟩

open Classical in
noncomputable def len (n : Nat) (c : Nat → Nat → Gd) (w : List Nat) : Nat :=
  if h : ∃ v, Rd n c v ∧ Eqv n c v w then (Classical.choose h).length else 0

theorem len_of_rd {v w : List Nat} (r : Rd n c v) (e : Eqv n c v w) : len n c w = v.length := by
  have h : ∃ v, Rd n c v ∧ Eqv n c v w := ⟨v, r, e⟩
  unfold len
  rw [dif_pos h]
  obtain ⟨r', e'⟩ := Classical.choose_spec h
  have h1 := r.2 _ r'.1 (e'.trans e.symm)
  have h2 := r'.2 _ r.1 (e.trans e'.symm)
  omega
theorem len_rd {w : List Nat} (r : Rd n c w) : len n c w = w.length := len_of_rd r (Eqv.refl w)
theorem len_le {v w : List Nat} (hv : ok n v) (e : Eqv n c v w) : len n c w ≤ v.length := by
  obtain ⟨u, r, e'⟩ := exists_rd (c := c) v hv
  rw [len_of_rd r (e'.trans e)]
  exact r.2 v hv e'.symm
theorem len_self {w : List Nat} (hw : ok n w) : len n c w ≤ w.length := len_le hw (Eqv.refl w)
theorem rd_iff {w : List Nat} (hw : ok n w) : Rd n c w ↔ len n c w = w.length := by
  constructor
  · exact len_rd
  · intro h
    refine ⟨hw, fun v hv e => ?_⟩
    rw [← h]; exact len_le hv e
theorem len_congr {v w : List Nat} (hv : ok n v) (e : Eqv n c v w) : len n c v = len n c w := by
  obtain ⟨u, r, e'⟩ := exists_rd (c := c) v hv
  rw [len_of_rd r e', len_of_rd r (e'.trans e)]
theorem len_cons_le {a : Nat} (ha : a < n) {w : List Nat} (hw : ok n w) : len n c (a :: w) ≤ len n c w + 1 := by
  obtain ⟨u, r, e⟩ := exists_rd (c := c) w hw
  rw [len_of_rd r e]
  exact len_le (v := a :: u) (r.1.cons ha) (e.cons a)
theorem len_le_cons (S : Sys n c) {a : Nat} (ha : a < n) {w : List Nat} (hw : ok n w) : len n c w ≤ len n c (a :: w) + 1 := by
  rw [← len_congr ((hw.cons ha).cons ha) (Eqv.twice S ha w)]
  exact len_cons_le ha (hw.cons ha)
theorem Rd.right {u v : List Nat} (r : Rd n c (u ++ v)) : Rd n c v := by
  refine ⟨r.1.right, fun v' hv' e => ?_⟩
  have := r.2 (u ++ v') (r.1.left.append hv') (Eqv.app (Eqv.refl u) e)
  simp only [List.length_append] at this
  omega
theorem Rd.left {u v : List Nat} (r : Rd n c (u ++ v)) : Rd n c u := by
  refine ⟨r.1.left, fun v' hv' e => ?_⟩
  have := r.2 (v' ++ v) (hv'.append r.1.right) (Eqv.app e (Eqv.refl v))
  simp only [List.length_append] at this
  omega

/-! two letters -/
def alt (s t : Nat) : Nat → List Nat
  | 0 => []
  | k + 1 => s :: alt t s k
theorem alt_length (s t k : Nat) : (alt s t k).length = k := by
  induction k generalizing s t with
  | zero => rfl
  | succ k ih => simp [alt, ih]
theorem alt_split (s t m j : Nat) : ∃ x y, alt s t (m + j) = alt s t m ++ alt x y j ∧ ((x = s ∧ y = t) ∨ (x = t ∧ y = s)) := by
  induction m generalizing s t with
  | zero => exact ⟨s, t, by simp [alt], .inl ⟨rfl, rfl⟩⟩
  | succ m ih =>
    obtain ⟨x, y, e, h⟩ := ih t s
    refine ⟨x, y, ?_, by omega⟩
    rw [Nat.add_right_comm]
    simp only [alt, e, List.cons_append]
theorem ok_alt {s t : Nat} (hs : s < n) (ht : t < n) (k : Nat) : ok n (alt s t k) := by
  induction k generalizing s t with
  | zero => exact ok_nil
  | succ k ih => exact (ih ht hs).cons hs

def alt2 (c d p q : Gd) : Nat → Gd → Gd → Gd × Gd
  | 0, u, v => (u, v)
  | k + 1, u, v => ((alt2 d c q p k v (-u + c * v + p)).2, (alt2 d c q p k v (-u + c * v + p)).1)

def rest (n : Nat) (c : Nat → Nat → Gd) (s t : Nat) (x : Vec) : Gd :=
  sumN n (fun j => if j = s ∨ j = t then 0 else c s j * x j)
theorem sum_rest (S : Sys n c) {s t : Nat} (hs : s < n) (ht : t < n) (h : s ≠ t) (x : Vec) :
    sumN n (fun j => c s j * x j) = c s t * x t + rest n c s t x := by
  have e : sumN n (fun j => c s j * x j) = sumN n (fun j => if j = t then c s j * x j else 0) + rest n c s t x := by
    unfold rest
    rw [← sumN_add]
    apply sumN_congr
    intro j _
    by_cases h1 : j = t
    · simp [h1]; grind
    · by_cases h2 : j = s
      · subst h2; simp [S.diag j hs, h1]; grind
      · simp [h1, h2]; grind
  rw [e, sumN_one t ht (by intro j _ hj; simp [hj])]
  simp
theorem rest_act {s t l : Nat} (hl : l = s ∨ l = t) (a b : Nat) (hab : (a = s ∧ b = t) ∨ (a = t ∧ b = s)) (x : Vec) :
    rest n c a b (act n c l x) = rest n c a b x := by
  unfold rest
  apply sumN_congr
  intro j _
  by_cases h : j = a ∨ j = b
  · simp [h]
  · have : j ≠ l := by omega
    simp [h, act, this]

theorem run_alt (S : Sys n c) {s t : Nat} (hs : s < n) (ht : t < n) (h : s ≠ t) (k : Nat) (x : Vec) :
    run n c (alt s t k) x s = (alt2 (c s t) (c t s) (rest n c s t x) (rest n c t s x) k (x s) (x t)).1 ∧
    run n c (alt s t k) x t = (alt2 (c s t) (c t s) (rest n c s t x) (rest n c t s x) k (x s) (x t)).2 ∧
    ∀ j, j ≠ s → j ≠ t → run n c (alt s t k) x j = x j := by
  induction k generalizing s t x with
  | zero => simp [alt, alt2]
  | succ k ih =>
    obtain ⟨h1, h2, h3⟩ := ih ht hs (fun e => h e.symm) (act n c s x)
    rw [rest_act (s := s) (t := t) (.inl rfl) _ _ (.inr ⟨rfl, rfl⟩), rest_act (s := s) (t := t) (.inl rfl) _ _ (.inl ⟨rfl, rfl⟩)] at h1 h2
    have e1 : act n c s x s = -x s + c s t * x t + rest n c s t x := by
      simp only [act, if_true, sum_rest S hs ht h]; grind
    have e2 : act n c s x t = x t := by simp only [act]; rw [if_neg (fun e => h e.symm)]
    rw [e1, e2] at h1 h2
    refine ⟨?_, ?_, ?_⟩
    · simp only [alt, run_cons, alt2]; exact h2
    · simp only [alt, run_cons, alt2]; exact h1
    · intro j hj hj'
      simp only [alt, run_cons]
      rw [h3 j hj' hj]
      simp only [act, if_neg hj]

def good (c d : Gd) (k : Nat) : Prop := Sq (alt2 c d 0 0 k 0 1).1 ∧ Sq (alt2 c d 0 0 k 0 1).2
def Braid (c d : Gd) (m : Nat) : Prop := ∀ p q u v, alt2 c d p q m u v = ((alt2 d c q p m v u).2, (alt2 d c q p m v u).1)
def Dih (c d : Gd) : Prop :=
  (∀ k, good c d k) ∨ ∃ m, 0 < m ∧ (∀ k, k < m → good c d k) ∧ Braid c d m

instance (x : Gd) : Decidable (Sq x) := inferInstanceAs (Decidable (_ ∧ _))
instance (c d : Gd) (k : Nat) : Decidable (good c d k) := inferInstanceAs (Decidable (_ ∧ _))

theorem pair_ext {x y : Gd × Gd} (h1 : x.1.a = y.1.a) (h2 : x.1.b = y.1.b) (h3 : x.2.a = y.2.a) (h4 : x.2.b = y.2.b) : x = y :=
  Prod.ext (Gd.ext' h1 h2) (Gd.ext' h3 h4)

theorem two_good (k : Nat) : good ⟨2, 0⟩ ⟨2, 0⟩ k := by
  have : ∀ k (j : Nat), (alt2 ⟨2, 0⟩ ⟨2, 0⟩ 0 0 k ⟨j, 0⟩ ⟨j + 1, 0⟩).1.Sq ∧ (alt2 ⟨2, 0⟩ ⟨2, 0⟩ 0 0 k ⟨j, 0⟩ ⟨j + 1, 0⟩).2.Sq := by
    intro k
    induction k with
    | zero => intro j; simp only [alt2, Sq]; omega
    | succ k ih =>
      intro j
      have e : (-(⟨j, 0⟩ : Gd) + ⟨2, 0⟩ * ⟨j + 1, 0⟩ + 0) = ⟨((j + 1 : Nat) : Int) + 1, 0⟩ := by
        apply Gd.ext' <;> simp <;> omega
      simp only [alt2, e]
      have := ih (j + 1)
      exact ⟨this.2, this.1⟩
  exact this k 0

theorem bond_dih {p q : Gd} (h : Bond p q) : Dih p q := by
  have z : (0 : Gd) = ⟨0, 0⟩ := rfl
  have o : (1 : Gd) = ⟨1, 0⟩ := rfl
  rcases h with ⟨h1, h2⟩ | ⟨h1, h2⟩ | ⟨h1, h2⟩ | ⟨h1, h2⟩ | ⟨h1, h2⟩ | ⟨h1, h2⟩ | ⟨h1, h2⟩ | ⟨h1, h2⟩ <;> subst h1 <;> subst h2
  · exact .inr ⟨2, by decide, by decide, by intro p q u v; apply pair_ext <;> simp [alt2] ⟩
  · exact .inr ⟨3, by decide, by decide, by intro p q u v; apply pair_ext <;> simp [alt2] <;> omega⟩
  · exact .inr ⟨4, by decide, by decide, by intro p q u v; apply pair_ext <;> simp [alt2] <;> omega⟩
  · exact .inr ⟨4, by decide, by decide, by intro p q u v; apply pair_ext <;> simp [alt2] <;> omega⟩
  · exact .inr ⟨5, by decide, by decide, by intro p q u v; apply pair_ext <;> simp [alt2] <;> omega⟩
  · exact .inr ⟨6, by decide, by decide, by intro p q u v; apply pair_ext <;> simp [alt2] <;> omega⟩
  · exact .inr ⟨6, by decide, by decide, by intro p q u v; apply pair_ext <;> simp [alt2] <;> omega⟩
  · exact .inl two_good

theorem Bond.symm {p q : Gd} (h : Bond p q) : Bond q p := by unfold Bond at *; grind

theorem braid_eqv (S : Sys n c) {s t : Nat} (hs : s < n) (ht : t < n) (h : s ≠ t) {m : Nat} (b : Braid (c s t) (c t s) m) :
    Eqv n c (alt s t m) (alt t s m) := by
  intro x
  obtain ⟨h1, h2, h3⟩ := run_alt S hs ht h m x
  obtain ⟨k1, k2, k3⟩ := run_alt S ht hs (fun e => h e.symm) m x
  have e := b (rest n c s t x) (rest n c t s x) (x s) (x t)
  funext j
  by_cases hj : j = s
  · subst hj; rw [h1, k2, e]
  · by_cases hj' : j = t
    · subst hj'; rw [h2, k1, e]
    · rw [h3 j hj hj', k3 j hj' hj]

theorem run_alt_ev (S : Sys n c) {s t : Nat} (hs : s < n) (ht : t < n) (h : s ≠ t) {k : Nat} (g : good (c t s) (c s t) k) :
    ∃ a b, nn a ∧ nn b ∧ run n c (alt t s k) (ev s) = vadd (vmul a (ev s)) (vmul b (ev t)) := by
  obtain ⟨h1, h2, h3⟩ := run_alt S ht hs (fun e => h e.symm) k (ev s)
  have r1 : rest n c t s (ev s) = 0 := by
    unfold rest; apply sumN_zero'; intro j _
    by_cases hj : j = t ∨ j = s
    · simp [hj]
    · have : j ≠ s := by omega
      simp [ev, this]; grind
  have r2 : rest n c s t (ev s) = 0 := by
    unfold rest; apply sumN_zero'; intro j _
    by_cases hj : j = s ∨ j = t
    · simp [hj]
    · have : j ≠ s := by omega
      simp [ev, this]; grind
  have es : ev s s = 1 := by simp [ev]
  have et : ev s t = 0 := by simp only [ev]; rw [if_neg (fun e => h e.symm)]
  rw [r1, r2, es, et] at h1 h2
  refine ⟨_, _, g.2.nn, g.1.nn, ?_⟩
  funext j
  simp only [vadd, vmul]
  by_cases hj : j = s
  · subst hj
    rw [h2]; simp only [ev, if_true, if_neg h]; grind
  · by_cases hj' : j = t
    · subst hj'
      rw [h1]; simp only [ev, if_true, if_neg hj]; grind
    · rw [h3 j hj' hj]; simp only [ev, if_neg hj, if_neg hj']; grind

def two (s t : Nat) (u : List Nat) : Prop := ∀ a, a ∈ u → a = s ∨ a = t

theorem two_alt (S : Sys n c) {s t : Nat} (u : List Nat) (h2 : two s t u) (r : Rd n c u) :
    u = alt s t u.length ∨ u = alt t s u.length := by
  induction u with
  | nil => exact .inl rfl
  | cons a u ih =>
    have r' : Rd n c u := Rd.right (u := [a]) r
    have i := ih (fun b hb => h2 b (by simp [hb])) r'
    have nost : ∀ u', u ≠ a :: u' := by
      intro u' e
      subst e
      have := r.2 u' r.1.tail.tail (Eqv.twice S r.1.head u').symm
      simp at this
      omega
    have key : ∀ x y, u = alt x y u.length → (u = [] ∨ a ≠ x) := by
      intro x y e
      cases hu : u.length with
      | zero => exact .inl (List.length_eq_zero_iff.mp hu)
      | succ k =>
        right
        rw [hu] at e
        simp only [alt] at e
        intro ea
        exact nost _ (ea ▸ e)
    have ha := h2 a (by simp)
    rcases i with i | i
    · rcases key s t i with hk | hk
      · subst hk
        rcases ha with ha | ha
        · subst ha; exact .inl rfl
        · subst ha; exact .inr rfl
      · have : a = t := by omega
        subst this
        right
        simp only [List.length_cons, alt]
        rw [← i]
    · rcases key t s i with hk | hk
      · subst hk
        rcases ha with ha | ha
        · subst ha; exact .inl rfl
        · subst ha; exact .inr rfl
      · have : a = s := by omega
        subst this
        left
        simp only [List.length_cons, alt]
        rw [← i]

theorem decomp (S : Sys n c) {s t : Nat} (hs : s < n) (ht : t < n) (u v : List Nat) (h2 : two s t u) (r : Rd n c (u ++ v)) :
    ∃ u' v', two s t u' ∧ Eqv n c (u' ++ v') (u ++ v) ∧ u'.length + v'.length = u.length + v.length ∧ Rd n c (u' ++ v') ∧
      len n c v' ≤ len n c (s :: v') ∧ len n c v' ≤ len n c (t :: v') := by
  generalize hk : v.length = k
  induction k using Nat.strongRecOn generalizing u v with
  | _ k ih =>
    by_cases hd : len n c v ≤ len n c (s :: v) ∧ len n c v ≤ len n c (t :: v)
    · exact ⟨u, v, h2, Eqv.refl _, by omega, r, hd.1, hd.2⟩
    · have : ∃ a, (a = s ∨ a = t) ∧ len n c (a :: v) < len n c v := by
        by_cases h1 : len n c v ≤ len n c (s :: v)
        · exact ⟨t, .inr rfl, by omega⟩
        · exact ⟨s, .inl rfl, by omega⟩
      obtain ⟨a, hst, hlt⟩ := this
      have ha : a < n := by rcases hst with e | e <;> omega
      rw [len_rd r.right] at hlt
      obtain ⟨v', r', e'⟩ := exists_rd (c := c) (a :: v) (r.1.right.cons ha)
      have hl : len n c (a :: v) = v'.length := len_of_rd r' e'
      have e2 : Eqv n c ((u ++ [a]) ++ v') (u ++ v) := by
        rw [List.append_assoc]
        refine (Eqv.app (Eqv.refl u) (Eqv.app (Eqv.refl [a]) e')).trans ?_
        exact Eqv.mid S ha u v
      have hle := r.2 ((u ++ [a]) ++ v') ((r.1.left.append (ok_nil.cons ha)).append r'.1) e2
      simp only [List.length_append, List.length_cons, List.length_nil] at hle
      have rr : Rd n c ((u ++ [a]) ++ v') := by
        refine ⟨(r.1.left.append (ok_nil.cons ha)).append r'.1, fun z hz ez => ?_⟩
        have := r.2 z hz (ez.trans e2)
        simp only [List.length_append, List.length_cons, List.length_nil] at *
        omega
      obtain ⟨u'', v'', q1, q2, q3, q4, q5, q6⟩ := ih v'.length (by omega) (u ++ [a]) v'
        (by intro b hb; rcases List.mem_append.mp hb with hb | hb
            · exact h2 b hb
            · rw [List.mem_singleton.mp hb]; exact hst) rr rfl
      refine ⟨u'', v'', q1, q2.trans e2, ?_, q4, q5, q6⟩
      simp only [List.length_append, List.length_cons, List.length_nil] at *
      omega

theorem positive (S : Sys n c) (w : List Nat) (hw : ok n w) (s : Nat) (hs : s < n) (h : len n c w ≤ len n c (s :: w)) (k : Nat) :
    nn (run n c w (ev s) k) := by
  generalize hN : len n c w = N
  induction N using Nat.strongRecOn generalizing w s k with
  | _ N ih =>
    obtain ⟨w0, r0, e0⟩ := exists_rd (c := c) w hw
    have l0 : len n c w = w0.length := len_of_rd r0 e0
    have nono : ∀ z, ok n z → Eqv n c (s :: z) w → z.length < N → False := by
      intro z hz ez hlt
      have : len n c (s :: w) ≤ z.length := len_le hz (Eqv.move S hs ez)
      omega
    rw [← e0]
    cases w0 with
    | nil =>
      simp only [run_nil, ev]
      split
      · exact nn_one
      · exact nn_zero
    | cons t w1 =>
      have ht : t < n := r0.1.head
      have hst : s ≠ t := by
        intro e; subst e
        exact nono w1 r0.1.tail e0 (by simp at l0; omega)
      obtain ⟨u, v, h2, ee, hl, rr, hd1, hd2⟩ := decomp S hs ht [] (t :: w1) (by intro a ha; cases ha) r0
      simp only [List.nil_append, List.length_nil, List.length_cons] at ee hl l0
      have hu : u ≠ [] := by
        intro e
        subst e
        simp only [List.nil_append] at ee rr
        have h1 : len n c (t :: v) ≤ w1.length := len_le r0.1.tail (by
          exact (Eqv.twice S ht w1).symm.trans (ee.symm.cons t))
        rw [len_rd rr] at hd2
        simp at hl
        omega
      have hvlt : v.length < N := by
        have : 0 < u.length := List.length_pos_iff.mpr hu
        omega
      have lv : len n c v = v.length := len_rd rr.right
      have p1 := fun k => ih v.length hvlt v rr.1.right s hs hd1 k lv
      have p2 := fun k => ih v.length hvlt v rr.1.right t ht hd2 k lv
      rw [← ee]
      have ew : Eqv n c (u ++ v) w := ee.trans e0
      have ua : u = alt t s u.length := by
        rcases two_alt S u h2 rr.left with e | e
        · exfalso
          cases hk : u.length with
          | zero => exact hu (List.length_eq_zero_iff.mp hk)
          | succ k =>
            rw [hk] at e
            simp only [alt] at e
            rw [e] at ew
            refine nono (alt t s k ++ v) ((ok_alt ht hs k).append rr.1.right) ew ?_
            simp only [List.length_append, alt_length]
            omega
        · exact e
      have g : good (c t s) (c s t) u.length := by
        rcases bond_dih (S.bond t s ht hs (fun e => hst e.symm)) with hd | ⟨m, hm, hg, hb⟩
        · exact hd _
        · apply hg
          apply Classical.byContradiction
          intro hge
          obtain ⟨x, y, e, hxy⟩ := alt_split t s m (u.length - m)
          rw [show m + (u.length - m) = u.length by omega] at e
          cases m with
          | zero => omega
          | succ m =>
            have b := braid_eqv S ht hs (fun e => hst e.symm) hb
            simp only [alt] at b
            have hx : ok n (alt x y (u.length - (m + 1))) := by
              rcases hxy with ⟨q1, q2⟩ | ⟨q1, q2⟩ <;> rw [q1, q2]
              · exact ok_alt ht hs _
              · exact ok_alt hs ht _
            refine nono (alt t s m ++ (alt x y (u.length - (m + 1)) ++ v)) ((ok_alt ht hs m).append (hx.append rr.1.right)) ?_ ?_
            · refine Eqv.trans ?_ ew
              have ew' : Eqv n c ((alt t s (m + 1) ++ alt x y (u.length - (m + 1))) ++ v) (u ++ v) := by
                rw [← e, ← ua]; exact Eqv.refl _
              refine Eqv.trans ?_ ew'
              rw [List.append_assoc, ← List.cons_append]
              exact Eqv.app b.symm (Eqv.refl _)
            · simp only [List.length_append, alt_length]
              omega
      obtain ⟨a, b, na, nb, hab⟩ := run_alt_ev S hs ht hst g
      rw [ua, run_append, hab, run_add, run_mul, run_mul]
      exact ((na.mul (p1 k)).add (nb.mul (p2 k)))

theorem run_zero (w : List Nat) : run n c w (fun _ => 0) = fun _ => 0 := by
  have := run_mul (n := n) (c := c) w 0 (fun _ => 0)
  have e : vmul 0 (fun _ => 0) = (fun _ => (0 : Gd)) := by funext k; simp only [vmul]; grind
  rw [e] at this
  rw [this]; funext k; simp only [vmul]; grind

theorem run_ne_zero (S : Sys n c) {w : List Nat} (hw : ok n w) (s : Nat) : run n c w (ev s) ≠ fun _ => 0 := by
  intro h
  have e := Eqv.rev' S hw (ev s)
  rw [run_append, h, run_zero] at e
  have := congrFun e s
  simp [ev] at this
  exact absurd this (by decide)

theorem act_far {l k : Nat} (h : k ≠ l) (x : Vec) : act n c l x k = x k := by simp only [act, if_neg h]
theorem run_far {w : List Nat} (hw : ok n w) {k : Nat} (hk : n ≤ k) (x : Vec) : run n c w x k = x k := by
  induction w generalizing x with
  | nil => rfl
  | cons a w ih =>
    rw [run_cons, ih hw.tail, act_far]
    have := hw.head
    omega

theorem run_cons_ev (S : Sys n c) {s : Nat} (hs : s < n) (w : List Nat) (k : Nat) :
    run n c (s :: w) (ev s) k = - run n c w (ev s) k := by
  rw [run_cons, act_ev_self S hs, run_mul]
  simp only [vmul]; grind

theorem negative (S : Sys n c) (w : List Nat) (hw : ok n w) (s : Nat) (hs : s < n) (h : len n c (s :: w) ≤ len n c w) (k : Nat) :
    nn (- run n c w (ev s) k) := by
  rw [← run_cons_ev S hs]
  apply positive S _ (hw.cons hs) s hs
  rw [len_congr ((hw.cons hs).cons hs) (Eqv.twice S hs w)]
  exact h

theorem len_cons_ne (S : Sys n c) (w : List Nat) (hw : ok n w) (s : Nat) (hs : s < n) : len n c (s :: w) ≠ len n c w := by
  intro h
  apply run_ne_zero S hw s
  funext k
  exact (positive S w hw s hs (by omega) k).anti (negative S w hw s hs (by omega) k)

theorem len_cons (S : Sys n c) (w : List Nat) (hw : ok n w) (s : Nat) (hs : s < n) :
    len n c (s :: w) = len n c w + 1 ∨ len n c w = len n c (s :: w) + 1 := by
  have h1 := len_cons_ne S w hw s hs
  have h2 := len_cons_le (c := c) hs hw
  have h3 := len_le_cons S hs hw
  omega

theorem len_nil : len n c [] = 0 := by
  have := len_self (n := n) (c := c) ok_nil
  simpa using this

theorem len_parity (S : Sys n c) (w : List Nat) (hw : ok n w) : len n c w % 2 = w.length % 2 := by
  induction w with
  | nil => rw [len_nil]; rfl
  | cons a w ih =>
    have := ih hw.tail
    have := len_cons S w hw.tail a hw.head
    simp only [List.length_cons]
    omega

/-- the letter s is a left letter -/
def left (n : Nat) (c : Nat → Nat → Gd) (w : List Nat) (s : Nat) : Prop := ∃ k, k < n ∧ ¬ nn (run n c w (ev s) k)

theorem left_iff (S : Sys n c) (w : List Nat) (hw : ok n w) (s : Nat) (hs : s < n) :
    left n c w s ↔ len n c w = len n c (s :: w) + 1 := by
  constructor
  · intro ⟨k, _, h⟩
    rcases len_cons S w hw s hs with e | e
    · exact absurd (positive S w hw s hs (by omega) k) h
    · exact e
  · intro h
    apply Classical.byContradiction
    intro hno
    apply run_ne_zero S hw s
    funext k
    by_cases hk : k < n
    · have h1 : nn (run n c w (ev s) k) := by
        apply Classical.byContradiction
        intro hn
        exact hno ⟨k, hk, hn⟩
      exact h1.anti (negative S w hw s hs (by omega) k)
    · rw [run_far hw (by omega)]
      simp only [ev]; rw [if_neg (by omega)]

theorem no_left (S : Sys n c) (w : List Nat) (hw : ok n w) (h : ∀ s, s < n → ¬ left n c w s) : Eqv n c w [] := by
  obtain ⟨v, r, e⟩ := exists_rd (c := c) w hw
  cases v with
  | nil => exact e.symm
  | cons t v =>
    exfalso
    have ht := r.1.head
    apply h t ht
    rw [left_iff S w hw t ht]
    have h1 : len n c w = v.length + 1 := len_of_rd r e
    have h2 : len n c (t :: w) ≤ v.length := len_le r.1.tail (Eqv.move S ht e)
    rcases len_cons S w hw t ht with h3 | h3 <;> omega

/-- deletion: where the letter s ahead of a reduced word makes it shorter, a letter of it can be left out -/
theorem swap_root (S : Sys n c) {a : List Nat} (ha : ok n a) {s t : Nat} (hs : s < n) (ht : t < n) {r : Gd}
    (hr : r ≠ 0) (h : run n c a (ev s) = vmul r (ev t)) : Eqv n c (s :: a) (a ++ [t]) := by
  -- z = a.reverse ++ s :: a ++ [t]
  let z := a.reverse ++ (s :: a) ++ [t]
  have hz : ok n z := (ha.reverse.append (ha.cons hs)).append (ok_nil.cons ht)
  let z' := [t] ++ a.reverse ++ (s :: a)
  have hz' : ok n z' := ((ok_nil.cons ht).append ha.reverse).append (ha.cons hs)
  -- a.reverse undone
  have inv : ∀ x, run n c a (run n c a.reverse x) = x := by
    intro x; rw [← run_append]; exact Eqv.rev S ha x
  have inv' : ∀ x, run n c a.reverse (run n c a x) = x := by
    intro x; rw [← run_append]; exact Eqv.rev' S ha x
  -- the middle changes only the coordinate t
  have act_form : ∀ (l : Nat) (x : Vec), ∃ q, act n c l x = vadd x (vmul q (ev l)) := by
    intro l x
    refine ⟨act n c l x l - x l, ?_⟩
    funext k
    by_cases hk : k = l
    · subst hk; simp only [vadd, vmul, ev, if_true]; grind
    · rw [act_far hk]; simp only [vadd, vmul, ev, if_neg hk]; grind
  have mid : ∀ x, ∃ q, run n c (a.reverse ++ (s :: a)) x = vadd x (vmul q (ev t)) := by
    intro x
    obtain ⟨q, hq⟩ := act_form s (run n c a.reverse x)
    refine ⟨q * r, ?_⟩
    rw [run_append, run_cons, hq, run_add, run_mul, inv, h]
    funext k; simp only [vadd, vmul]; grind
  have zf : ∀ x, ∃ q, run n c z x = vadd x (vmul q (ev t)) := by
    intro x
    obtain ⟨q, hq⟩ := mid x
    obtain ⟨q', hq'⟩ := act_form t (vadd x (vmul q (ev t)))
    refine ⟨q + q', ?_⟩
    show run n c (a.reverse ++ (s :: a) ++ [t]) x = _
    rw [run_append, hq, run_cons, run_nil, hq']
    funext k; simp only [vadd, vmul]; grind
  have zf' : ∀ x, ∃ q, run n c z' x = vadd x (vmul q (ev t)) := by
    intro x
    obtain ⟨q', hq'⟩ := act_form t x
    obtain ⟨q, hq⟩ := mid (vadd x (vmul q' (ev t)))
    refine ⟨q + q', ?_⟩
    show run n c ([t] ++ a.reverse ++ (s :: a)) x = _
    rw [List.append_assoc, run_append, run_cons, run_nil, hq', hq]
    funext k; simp only [vadd, vmul]; grind
  -- z and z' undo one another
  have zz : ∀ x, run n c z' (run n c z x) = x := by
    intro x
    show run n c ([t] ++ a.reverse ++ (s :: a)) (run n c (a.reverse ++ (s :: a) ++ [t]) x) = x
    rw [← run_append]
    have e0 : (a.reverse ++ (s :: a) ++ [t]) ++ ([t] ++ a.reverse ++ (s :: a)) = (a.reverse ++ (s :: a)) ++ t :: t :: (a.reverse ++ (s :: a)) := by simp
    rw [e0]
    have : Eqv n c ((a.reverse ++ (s :: a)) ++ t :: t :: (a.reverse ++ (s :: a))) [] := by
      refine (Eqv.mid S ht (a.reverse ++ (s :: a)) (a.reverse ++ (s :: a))).trans ?_
      have e1 : a.reverse ++ (s :: a) ++ (a.reverse ++ (s :: a)) = (a.reverse ++ [s]) ++ ((a ++ a.reverse) ++ (s :: a)) := by simp
      rw [e1]
      refine (Eqv.app (Eqv.refl (a.reverse ++ [s])) (Eqv.app (Eqv.rev' S ha) (Eqv.refl (s :: a)))).trans ?_
      have e2 : (a.reverse ++ [s]) ++ ([] ++ (s :: a)) = a.reverse ++ (s :: s :: a) := by simp
      rw [e2]
      exact (Eqv.mid S hs _ _).trans (Eqv.rev S ha)
    exact this x
  -- e_t is fixed
  have act_neg : ∀ k : Nat, vmul (-1 : Gd) (ev k) = fun j => -(ev k j) := by intro k; funext j; simp only [vmul]; grind
  have fixt' : run n c z' (ev t) = ev t := by
    have e1 : run n c z' (vmul r (ev t)) = vmul r (ev t) := by
      show run n c ([t] ++ a.reverse ++ (s :: a)) _ = _
      rw [List.append_assoc, run_append, run_cons, run_nil, act_mul, act_ev_self S ht, run_append, run_cons]
      have : vmul r (vmul (-1) (ev t)) = vmul (-1) (vmul r (ev t)) := by funext k; simp only [vmul]; grind
      rw [this, ← h, run_mul, inv', act_mul, act_ev_self S hs, run_mul, run_mul]
      funext k; simp only [vmul]; grind
    rw [run_mul] at e1
    funext k
    have := congrFun e1 k
    simp only [vmul] at this
    have e2 : r * (run n c z' (ev t) k - ev t k) = 0 := by grind
    rcases mul_eq_zero e2 with e | e
    · exact absurd e hr
    · grind
  have fixt : run n c z (ev t) = ev t := by
    have e1 := zz (ev t)
    obtain ⟨q, hq⟩ := zf (ev t)
    rw [hq, run_add, run_mul, fixt'] at e1
    rw [hq]; exact e1
  -- e_k is fixed
  have fix : ∀ k, k < n → run n c z (ev k) = ev k := by
    intro k hk
    by_cases hkt : k = t
    · subst hkt; exact fixt
    obtain ⟨q, hq⟩ := zf (ev k)
    obtain ⟨q', hq'⟩ := zf' (ev k)
    have sgn : ∀ y q, ok n y → run n c y (ev k) = vadd (ev k) (vmul q (ev t)) → nn q := by
      intro y q hy hyq
      have ct : run n c y (ev k) t = q := by
        rw [hyq]; simp only [vadd, vmul, ev, if_true, if_neg (fun e => hkt e.symm : ¬ t = k)]; grind
      have ck : run n c y (ev k) k = 1 := by
        rw [hyq]; simp only [vadd, vmul, ev, if_true, if_neg hkt]; grind
      rcases len_cons S y hy k hk with e | e
      · rw [← ct]; exact positive S y hy k hk (by omega) t
      · exfalso
        have := negative S y hy k hk (by omega) k
        rw [ck] at this
        have := nn_one.anti this
        exact absurd this (by decide)
    have n1 := sgn z q hz hq
    have n2 := sgn z' q' hz' hq'
    have e1 := zz (ev k)
    rw [hq, run_add, run_mul, hq', fixt'] at e1
    have e2 := congrFun e1 t
    simp only [vadd, vmul, ev, if_true] at e2
    have e3 : q' = -q := by grind
    rw [e3] at n2
    have e4 := n1.anti n2
    rw [hq, e4]
    funext j; simp only [vadd, vmul]; grind
  -- so z is nothing
  have zid : ∀ x, run n c z x = x := by
    intro x
    -- x is made of the ev's below n and a rest
    have span : ∀ m, m ≤ n → ∀ x : Vec, (∀ j, m ≤ j → x j = 0) → run n c z x = x := by
      intro m
      induction m with
      | zero =>
        intro _ x hx
        have : x = fun _ => 0 := by funext j; exact hx j (by omega)
        rw [this, run_zero]
      | succ m ih =>
        intro hm x hx
        have e : x = vadd (fun j => if j = m then 0 else x j) (vmul (x m) (ev m)) := by
          funext j
          simp only [vadd, vmul, ev]
          by_cases hj : j = m
          · subst hj; simp; grind
          · simp [hj]; grind
        rw [e, run_add, run_mul, fix m (by omega), ih (by omega)]
        intro j hj
        by_cases h' : j = m
        · simp [h']
        · simp only [if_neg h']; exact hx j (by omega)
    have actfar : ∀ (y : List Nat) (x : Vec), ok n y → (∀ j, j < n → x j = 0) → run n c y x = x := by
      intro y
      induction y with
      | nil => intro x _ _; rfl
      | cons l y ih =>
        intro x hy hx
        have : act n c l x = x := by
          funext k
          by_cases hk : k = l
          · subst hk
            simp only [act, if_true]
            rw [sumN_zero' (by intro j hj; rw [hx j hj]; grind), hx k hy.head]; grind
          · rw [act_far hk]
        rw [run_cons, this]
        exact ih x hy.tail hx
    have e : x = vadd (fun j => if j < n then x j else 0) (fun j => if j < n then 0 else x j) := by
      funext j
      simp only [vadd]
      by_cases hj : j < n
      · simp [hj]; grind
      · simp [hj]; grind
    rw [e, run_add, span n (Nat.le_refl n) _ (by intro j hj; rw [if_neg (by omega)]), actfar z _ hz (by intro j hj; rw [if_pos hj])]
  -- a ++ z = s a t
  have e1 : Eqv n c (a ++ z) a := by
    intro x; rw [run_append, zid]
  have e2 : Eqv n c (a ++ z) (s :: a ++ [t]) := by
    have : a ++ z = (a ++ a.reverse) ++ (s :: a ++ [t]) := by simp [z]
    rw [this]
    have q : Eqv n c ((a ++ a.reverse) ++ (s :: a ++ [t])) ([] ++ (s :: a ++ [t])) := Eqv.app (Eqv.rev' S ha) (Eqv.refl _)
    exact q
  have e3 : Eqv n c (s :: a ++ [t]) a := e2.symm.trans e1
  have e4 : Eqv n c ((s :: a ++ [t]) ++ [t]) (a ++ [t]) := Eqv.app e3 (Eqv.refl _)
  have e5 : Eqv n c ((s :: a ++ [t]) ++ [t]) (s :: a) := by
    have := Eqv.mid S ht (s :: a) []
    simpa using this
  exact e5.symm.trans e4

/-- where act t turns a vector without negative coordinates into one without positive ones, it stands at t alone -/
theorem turned {t : Nat} {x : Vec} (hx : ∀ k, nn (x k)) (hn : ∀ k, nn (-(act n c t x k))) : ∀ k, k ≠ t → x k = 0 := by
  intro k hk
  have := hn k
  rw [act_far hk] at this
  exact (hx k).anti this

theorem exchange (S : Sys n c) {s : Nat} (hs : s < n) (v : List Nat) (hv : ok n v) (h : len n c v = len n c (s :: v) + 1) :
    ∃ a t b, v = a ++ t :: b ∧ Eqv n c (s :: v) (a ++ b) := by
  have key : ∀ (a b : List Nat), ok n (a ++ b) → (len n c (s :: a) = len n c a + 1) →
      (len n c (a ++ b) = len n c (s :: (a ++ b)) + 1) → ∃ a' t b', a ++ b = a' ++ t :: b' ∧ Eqv n c (s :: (a ++ b)) (a' ++ b') := by
    intro a b
    induction b generalizing a with
    | nil =>
      intro _ h1 h2
      rw [List.append_nil] at h2
      omega
    | cons t b ih =>
      intro hok h1 h2
      have ha : ok n a := hok.left
      have ht : t < n := hok.right.head
      have hat : ok n (a ++ [t]) := ha.append (ok_nil.cons ht)
      rcases len_cons S (a ++ [t]) hat s hs with h3 | h3
      · have e : a ++ t :: b = (a ++ [t]) ++ b := by simp
        rw [e] at hok h2 ⊢
        exact ih (a ++ [t]) hok h3 h2
      · refine ⟨a, t, b, rfl, ?_⟩
        have p : ∀ k, nn (run n c a (ev s) k) := positive S a ha s hs (by omega)
        have q : ∀ k, nn (-(act n c t (run n c a (ev s)) k)) := by
          intro k
          have := negative S (a ++ [t]) hat s hs (by omega) k
          rw [run_append] at this
          exact this
        have tt := turned p q
        have form : run n c a (ev s) = vmul (run n c a (ev s) t) (ev t) := by
          funext k
          by_cases hk : k = t
          · subst hk; simp only [vmul, ev, if_true]; grind
          · rw [tt k hk]; simp only [vmul, ev, if_neg hk]; grind
        have hr : run n c a (ev s) t ≠ 0 := by
          intro h0
          apply run_ne_zero S ha s
          rw [form, h0]
          funext k; simp only [vmul]; grind
        have sw := swap_root S ha hs ht hr form
        have : Eqv n c ((s :: a) ++ t :: b) ((a ++ [t]) ++ t :: b) := Eqv.app sw (Eqv.refl _)
        have e2 : (a ++ [t]) ++ t :: b = a ++ t :: t :: b := by simp
        rw [e2] at this
        exact this.trans (Eqv.mid S ht a b)
  have := key [] v hv ?_ h
  · simpa using this
  · rcases len_cons S [] ok_nil s hs with e | e
    · exact e
    · rw [len_nil] at e; omega

/-- a word that is not reduced stays the same member without two of its letters -/
theorem deletion (S : Sys n c) (w : List Nat) (hw : ok n w) (h : len n c w ≠ w.length) :
    ∃ u s a t b, w = u ++ s :: a ++ t :: b ∧ Eqv n c w (u ++ a ++ b) := by
  induction w with
  | nil => rw [len_nil] at h; exact absurd rfl h
  | cons s v ih =>
    by_cases hv : len n c v = v.length
    · have : len n c v = len n c (s :: v) + 1 := by
        rcases len_cons S v hw.tail s hw.head with e | e
        · simp only [List.length_cons] at h; omega
        · exact e
      obtain ⟨a, t, b, e, q⟩ := exchange S hw.head v hw.tail this
      exact ⟨[], s, a, t, b, by simp [e], by simpa using q⟩
    · obtain ⟨u, s', a, t, b, e, q⟩ := ih hw.tail hv
      refine ⟨s :: u, s', a, t, b, by simp [e], ?_⟩
      have := q.cons s
      simpa using this

end
end UW
namespace UW
open Gd

/-! the same over lists -/
def fac (F : List (List Gd)) (i j : Nat) : Gd := (F.getD i []).getD j 0
def sumL (xs : List Gd) : Gd := xs.foldr (fun x y => x + y) 0
def dot (fs r : List Gd) : Gd := sumL (List.zipWith (fun x y => x * y) fs r)
def ledL (F : List (List Gd)) (l : Nat) (r : List Gd) : List Gd := r.set l (-(r.getD l 0) + dot (F.getD l []) r)
def behindL (F : List (List Gd)) (l : Nat) (st : List (List Gd)) : List (List Gd) := st.map (ledL F l)
def aheadL (F : List (List Gd)) (l : Nat) (st : List (List Gd)) : List (List Gd) :=
  st.mapIdx fun a row => if a = l then row.map (fun x => -x) else List.zipWith (fun x y => x + fac F l a * y) row (st.getD l [])
def firstL (n : Nat) : List (List Gd) := (List.range n).map fun k => (List.range n).map fun j => if j = k then (1 : Gd) else 0
def stateL (n : Nat) (F : List (List Gd)) (w : List Nat) : List (List Gd) := w.foldl (fun st l => behindL F l st) (firstL n)
def lowRow (r : List Gd) : Bool := r.any isBelow
def leftsL (st : List (List Gd)) : List Nat := (List.range st.length).filter fun l => lowRow (st.getD l [])
def normL (F : List (List Gd)) : Nat → List (List Gd) → List Nat
  | 0, _ => []
  | k + 1, st => match leftsL st with
    | [] => []
    | l :: _ => l :: normL F k (aheadL F l st)
def due (n : Nat) (F : List (List Gd)) (w : List Nat) : List Nat := normL F 100 (stateL n F w)

structure WF (n : Nat) (F : List (List Gd)) : Prop where
  len : F.length = n
  rows : ∀ i, i < n → (F.getD i []).length = n

def vecOf (n : Nat) (x : Vec) : List Gd := (List.range n).map x
def stOf (n : Nat) (c : Nat → Nat → Gd) (w : List Nat) : List (List Gd) := (List.range n).map fun k => vecOf n (run n c w (ev k))

section
variable {n : Nat} {F : List (List Gd)}
theorem vecOf_len (x : Vec) : (vecOf n x).length = n := by simp [vecOf]
theorem stOf_len {c : Nat → Nat → Gd} (w : List Nat) : (stOf n c w).length = n := by simp [stOf]
theorem vecOf_get {x : Vec} {j : Nat} (h : j < n) : (vecOf n x)[j]? = some (x j) := by simp [vecOf, h]
theorem vecOf_getD {x : Vec} {j : Nat} (h : j < n) : (vecOf n x).getD j 0 = x j := by simp [vecOf, h]
theorem stOf_get {c : Nat → Nat → Gd} {w : List Nat} {k : Nat} (h : k < n) : (stOf n c w)[k]? = some (vecOf n (run n c w (ev k))) := by simp [stOf, h]
theorem stOf_getD {c : Nat → Nat → Gd} {w : List Nat} {k : Nat} (h : k < n) : (stOf n c w).getD k [] = vecOf n (run n c w (ev k)) := by simp [stOf, h]

theorem sumN_list (m : Nat) (f : Nat → Gd) : sumN m f = sumL ((List.range m).map f) := by
  have key : ∀ (xs : List Gd) (y : Gd), sumL (xs ++ [y]) = sumL xs + y := by
    intro xs y
    induction xs with
    | nil => simp [sumL]; grind
    | cons x xs ih => simp only [sumL, List.cons_append, List.foldr_cons] at *; rw [ih]; grind
  induction m with
  | zero => rfl
  | succ m ih =>
    rw [List.range_succ, List.map_append, List.map_singleton, key, sumN, ih]
theorem list_eq_range {α : Type} (xs : List α) (d : α) : xs = (List.range xs.length).map fun k => xs.getD k d := by
  apply List.ext_getElem?
  intro k
  by_cases h : k < xs.length
  · simp [h]
  · simp [h]
theorem dot_vec (fs : List Gd) (hf : fs.length = n) (x : Vec) : dot fs (vecOf n x) = sumN n (fun j => fs.getD j 0 * x j) := by
  rw [sumN_list]
  unfold dot
  congr 1
  apply List.ext_getElem?
  intro k
  by_cases h : k < n
  · simp [vecOf, h, hf, List.getElem?_zipWith]
  · simp [vecOf, h, hf, List.getElem?_zipWith]
theorem ledL_vec (W : WF n F) {l : Nat} (hl : l < n) (x : Vec) : ledL F l (vecOf n x) = vecOf n (act n (fac F) l x) := by
  unfold ledL
  rw [dot_vec _ (W.rows l hl), vecOf_getD hl]
  apply List.ext_getElem?
  intro k
  rw [List.getElem?_set]
  by_cases h : k < n
  · by_cases hk : l = k
    · subst hk
      rw [if_pos rfl, if_pos (by rw [vecOf_len]; exact hl), vecOf_get h]
      simp only [act, if_true, fac]
    · rw [if_neg hk, vecOf_get h, vecOf_get h, act_far (fun e => hk e.symm)]
  · by_cases hk : l = k
    · omega
    · rw [if_neg hk, List.getElem?_eq_none (by rw [vecOf_len]; omega), List.getElem?_eq_none (by rw [vecOf_len]; omega)]
theorem behindL_st (W : WF n F) {l : Nat} (hl : l < n) (w : List Nat) : behindL F l (stOf n (fac F) w) = stOf n (fac F) (w ++ [l]) := by
  unfold behindL stOf
  rw [List.map_map]
  apply List.map_congr_left
  intro k _
  show ledL F l (vecOf n (run n (fac F) w (ev k))) = _
  rw [ledL_vec W hl, run_append]
  rfl
theorem firstL_st (c : Nat → Nat → Gd) : firstL n = stOf n c [] := by
  unfold firstL stOf vecOf
  apply List.map_congr_left
  intro k _
  rfl
theorem stateL_st (W : WF n F) (w : List Nat) (hw : ok n w) : stateL n F w = stOf n (fac F) w := by
  have key : ∀ (w u : List Nat), ok n w → w.foldl (fun st l => behindL F l st) (stOf n (fac F) u) = stOf n (fac F) (u ++ w) := by
    intro w
    induction w with
    | nil => intro u _; simp
    | cons l w ih =>
      intro u h
      rw [List.foldl_cons, behindL_st W h.head, ih _ h.tail]
      simp
  unfold stateL
  rw [firstL_st (fac F), key w [] hw]
  rfl
theorem aheadL_st (S : Sys n (fac F)) {l : Nat} (hl : l < n) (w : List Nat) : aheadL F l (stOf n (fac F) w) = stOf n (fac F) (l :: w) := by
  unfold aheadL
  rw [stOf_getD hl]
  apply List.ext_getElem?
  intro a
  rw [List.getElem?_mapIdx]
  by_cases h : a < n
  · rw [stOf_get h, stOf_get h]
    simp only [Option.map_some]
    congr 1
    by_cases ha : a = l
    · subst ha
      rw [if_pos rfl]
      unfold vecOf
      rw [List.map_map]
      apply List.map_congr_left
      intro j _
      show -(run n (fac F) w (ev a) j) = _
      rw [run_cons_ev S hl]
    · rw [if_neg ha, run_cons, act_ev_ne h ha, run_add, run_mul]
      apply List.ext_getElem?
      intro j
      by_cases hj : j < n
      · simp [vecOf, hj, List.getElem?_zipWith, vadd, vmul]
      · simp [vecOf, hj, List.getElem?_zipWith]
  · rw [List.getElem?_eq_none (by rw [stOf_len]; omega), List.getElem?_eq_none (by rw [stOf_len]; omega)]
    rfl
theorem lowRow_st {w : List Nat} {s : Nat} (hs : s < n) : lowRow ((stOf n (fac F) w).getD s []) = true ↔ left n (fac F) w s := by
  rw [stOf_getD hs]
  unfold lowRow left vecOf
  rw [List.any_eq_true]
  constructor
  · rintro ⟨x, hx, hb⟩
    obtain ⟨k, hk, rfl⟩ := List.mem_map.mp hx
    exact ⟨k, List.mem_range.mp hk, (isBelow_nn _).mp hb⟩
  · rintro ⟨k, hk, hb⟩
    exact ⟨_, List.mem_map.mpr ⟨k, List.mem_range.mpr hk, rfl⟩, (isBelow_nn _).mpr hb⟩
theorem stOf_eqv {c : Nat → Nat → Gd} {u w : List Nat} (hu : ok n u) (hw : ok n w) : stOf n c u = stOf n c w ↔ Eqv n c u w := by
  constructor
  · intro h
    have ek : ∀ k, k < n → run n c u (ev k) = run n c w (ev k) := by
      intro k hk
      have h1 := stOf_get (c := c) (w := u) hk
      rw [h, stOf_get hk] at h1
      have h2 := Option.some.inj h1
      funext j
      by_cases hj : j < n
      · have a := vecOf_get (x := run n c u (ev k)) hj
        rw [← h2, vecOf_get hj] at a
        exact (Option.some.inj a).symm
      · rw [run_far hu (by omega), run_far hw (by omega)]
    -- by linearity
    have far : ∀ (y : List Nat) (x : Vec), ok n y → (∀ j, j < n → x j = 0) → run n c y x = x := by
      intro y
      induction y with
      | nil => intro x _ _; rfl
      | cons l y ih =>
        intro x hy hx
        have : act n c l x = x := by
          funext k
          by_cases hk : k = l
          · subst hk
            simp only [act, if_true]
            rw [sumN_zero' (by intro j hj; rw [hx j hj]; grind), hx k hy.head]; grind
          · rw [act_far hk]
        rw [run_cons, this]
        exact ih x hy.tail hx
    have span : ∀ m, m ≤ n → ∀ x : Vec, (∀ j, m ≤ j → x j = 0) → run n c u x = run n c w x := by
      intro m
      induction m with
      | zero =>
        intro _ x hx
        have : x = fun _ => 0 := by funext j; exact hx j (by omega)
        rw [this, run_zero, run_zero]
      | succ m ih =>
        intro hm x hx
        have e : x = vadd (fun j => if j = m then 0 else x j) (vmul (x m) (ev m)) := by
          funext j
          simp only [vadd, vmul, ev]
          by_cases hj : j = m
          · subst hj; simp; grind
          · simp [hj]; grind
        rw [e, run_add, run_add, run_mul, run_mul, ek m (by omega), ih (by omega)]
        intro j hj
        by_cases h' : j = m
        · simp [h']
        · simp only [if_neg h']; exact hx j (by omega)
    intro x
    have e : x = vadd (fun j => if j < n then x j else 0) (fun j => if j < n then 0 else x j) := by
      funext j
      simp only [vadd]
      by_cases hj : j < n
      · simp [hj]; grind
      · simp [hj]; grind
    have e1 := span n (Nat.le_refl n) (fun j => if j < n then x j else 0) (by intro j hj; rw [if_neg (by omega)])
    have e2 := far u (fun j => if j < n then 0 else x j) hu (by intro j hj; rw [if_pos hj])
    have e3 := far w (fun j => if j < n then 0 else x j) hw (by intro j hj; rw [if_pos hj])
    rw [e, run_add, run_add, e1, e2, e3]
  · intro h
    unfold stOf
    apply List.map_congr_left
    intro k _
    rw [h]
theorem stateL_eqv (W : WF n F) {u w : List Nat} (hu : ok n u) (hw : ok n w) : stateL n F u = stateL n F w ↔ Eqv n (fac F) u w := by
  rw [stateL_st W u hu, stateL_st W w hw, stOf_eqv hu hw]

/-- the left letters, in order -/
theorem leftsL_nil {w : List Nat} : leftsL (stOf n (fac F) w) = [] ↔ ∀ s, s < n → ¬ left n (fac F) w s := by
  unfold leftsL
  rw [stOf_len, List.filter_eq_nil_iff]
  constructor
  · intro h s hs hl
    exact h s (List.mem_range.mpr hs) ((lowRow_st hs).mpr hl)
  · intro h s hs hb
    have := List.mem_range.mp hs
    exact h s this ((lowRow_st this).mp hb)
theorem leftsL_cons {w : List Nat} {l : Nat} {r : List Nat} (h : leftsL (stOf n (fac F) w) = l :: r) : l < n ∧ left n (fac F) w l := by
  have hm : l ∈ leftsL (stOf n (fac F) w) := by rw [h]; simp
  unfold leftsL at hm
  rw [stOf_len, List.mem_filter, List.mem_range] at hm
  exact ⟨hm.1, (lowRow_st hm.1).mp hm.2⟩

theorem normL_spec (S : Sys n (fac F)) (k : Nat) (w : List Nat) (hw : ok n w) (hk : len n (fac F) w ≤ k) :
    (normL F k (stOf n (fac F) w)).length = len n (fac F) w ∧ ok n (normL F k (stOf n (fac F) w)) ∧ Eqv n (fac F) (normL F k (stOf n (fac F) w)) w := by
  induction k generalizing w with
  | zero =>
    have h0 : len n (fac F) w = 0 := by omega
    obtain ⟨v, r, e⟩ := exists_rd (c := fac F) w hw
    have hv : v.length = 0 := by rw [← len_of_rd r e]; exact h0
    have hv' : v = [] := List.length_eq_zero_iff.mp hv
    subst hv'
    exact ⟨h0.symm, ok_nil, e⟩
  | succ k ih =>
    unfold normL
    cases hl : leftsL (stOf n (fac F) w) with
    | nil =>
      have e := no_left S w hw (leftsL_nil.mp hl)
      have h0 : len n (fac F) w = 0 := by
        rw [len_congr hw e, len_nil]
      exact ⟨h0.symm, ok_nil, e.symm⟩
    | cons l r =>
      obtain ⟨hln, hleft⟩ := leftsL_cons hl
      have hlen := (left_iff S w hw l hln).mp hleft
      simp only [aheadL_st S hln]
      obtain ⟨h1, h2, h3⟩ := ih (l :: w) (hw.cons hln) (by omega)
      refine ⟨by simp only [List.length_cons, h1]; omega, h2.cons hln, ?_⟩
      exact (h3.cons l).trans (Eqv.twice S hln w)
theorem normL_more (S : Sys n (fac F)) (k : Nat) (w : List Nat) (hw : ok n w) (hk : len n (fac F) w ≤ k) (j : Nat) :
    normL F (k + j) (stOf n (fac F) w) = normL F k (stOf n (fac F) w) := by
  induction k generalizing w with
  | zero =>
    have h0 : len n (fac F) w = 0 := by omega
    cases j with
    | zero => rfl
    | succ j =>
      have : leftsL (stOf n (fac F) w) = [] := by
        cases hl : leftsL (stOf n (fac F) w) with
        | nil => rfl
        | cons l r =>
          obtain ⟨hln, hleft⟩ := leftsL_cons hl
          have hlen := (left_iff S w hw l hln).mp hleft
          omega
      rw [Nat.zero_add]
      unfold normL
      rw [this]
  | succ k ih =>
    rw [Nat.add_right_comm]
    unfold normL
    cases hl : leftsL (stOf n (fac F) w) with
    | nil => rfl
    | cons l r =>
      obtain ⟨hln, hleft⟩ := leftsL_cons hl
      have hlen := (left_iff S w hw l hln).mp hleft
      simp only [aheadL_st S hln]
      rw [ih (l :: w) (hw.cons hln) (by omega)]
/-- one turn -/
theorem normL_turn (S : Sys n (fac F)) {w : List Nat} (hw : ok n w) (hk : len n (fac F) w ≤ 100) {l : Nat} {r : List Nat} (hl : leftsL (stOf n (fac F) w) = l :: r) :
    normL F 100 (stOf n (fac F) w) = l :: normL F 100 (stOf n (fac F) (l :: w)) := by
  obtain ⟨hln, hleft⟩ := leftsL_cons hl
  have hlen := (left_iff S w hw l hln).mp hleft
  conv => lhs; unfold normL
  rw [hl]
  simp only [aheadL_st S hln]
  rw [← normL_more S 99 (l :: w) (hw.cons hln) (by omega) 1]
theorem normL_end {w : List Nat} (hl : leftsL (stOf n (fac F) w) = []) : normL F 100 (stOf n (fac F) w) = [] := by
  unfold normL
  rw [hl]

/-! what the law asks -/
section
variable (W : WF n F) (S : Sys n (fac F)) {w : List Nat} (hw : ok n w) (h100 : w.length ≤ 100)
include W S hw h100
theorem due_spec : (due n F w).length = len n (fac F) w ∧ ok n (due n F w) ∧ Eqv n (fac F) (due n F w) w := by
  unfold due
  rw [stateL_st W w hw]
  exact normL_spec S 100 w hw (Nat.le_trans (len_self hw) h100)
theorem due_len_le : (due n F w).length ≤ w.length := by
  rw [(due_spec W S hw h100).1]; exact len_self hw
theorem due_parity : ((w.length : Int) - ((due n F w).length : Int)) % 2 = 0 := by
  have h1 := (due_spec W S hw h100).1
  have h2 := len_parity S w hw
  have h3 := len_self (c := fac F) hw
  omega
theorem due_state : stateL n F (due n F w) = stateL n F w := by
  obtain ⟨_, h2, h3⟩ := due_spec W S hw h100
  exact (stateL_eqv W h2 hw).mpr h3
theorem due_due : due n F (due n F w) = due n F w := by
  show normL F 100 (stateL n F (due n F w)) = normL F 100 (stateL n F w)
  rw [due_state W S hw h100]
theorem due_eq_iff {u : List Nat} (hu : ok n u) (hu100 : u.length ≤ 100) : due n F u = due n F w ↔ stateL n F u = stateL n F w := by
  constructor
  · intro h
    rw [← due_state W S hu hu100, ← due_state W S hw h100, h]
  · intro h
    unfold due
    rw [h]
end
theorem due_congr {u w : List Nat} (h : stateL n F u = stateL n F w) : due n F u = due n F w := by unfold due; rw [h]
theorem grown_state (W : WF n F) (S : Sys n (fac F)) {u v : List Nat} {l : Nat} (hu : ok n u) (hv : ok n v) (hl : l < n) :
    stateL n F (u ++ [l, l] ++ v) = stateL n F (u ++ v) := by
  have h1 : ok n (u ++ [l, l] ++ v) := (hu.append ((ok_nil.cons hl).cons hl)).append hv
  refine (stateL_eqv W h1 (hu.append hv)).mpr ?_
  have e : u ++ [l, l] ++ v = u ++ l :: l :: v := by simp
  rw [e]
  exact Eqv.mid S hl u v

/-- without the letters at low and high -/
def less (w : List Nat) (low high : Nat) : List Nat := w.take low ++ (w.take high).drop (low + 1) ++ w.drop (high + 1)
theorem less_split (u a b : List Nat) (s t : Nat) : less (u ++ s :: a ++ t :: b) u.length (u.length + 1 + a.length) = u ++ a ++ b := by
  unfold less
  have e : u ++ s :: a ++ t :: b = (u ++ [s] ++ a) ++ (t :: b) := by simp
  have h1 : (u ++ s :: a ++ t :: b).take u.length = u := by
    rw [List.append_assoc, List.take_left]
  have hl : (u ++ [s] ++ a).length = u.length + 1 + a.length := by simp; omega
  have h2 : (u ++ s :: a ++ t :: b).take (u.length + 1 + a.length) = u ++ [s] ++ a := by
    rw [e, ← hl, List.take_left]
  have h3 : (u ++ [s] ++ a).drop (u.length + 1) = a := by
    have : u.length + 1 = (u ++ [s]).length := by simp
    rw [this, List.drop_left]
  have h4 : (u ++ s :: a ++ t :: b).drop (u.length + 1 + a.length + 1) = b := by
    have e2 : u ++ s :: a ++ t :: b = (u ++ [s] ++ a ++ [t]) ++ b := by simp
    have hl2 : (u ++ [s] ++ a ++ [t]).length = u.length + 1 + a.length + 1 := by simp; omega
    rw [e2, ← hl2, List.drop_left]
  rw [h1, h2, h3, h4]
theorem less_ok {w : List Nat} (hw : ok n w) (low high : Nat) : ok n (less w low high) := by
  unfold less
  refine (ok.append (fun a ha => hw a (List.mem_of_mem_take ha)) (fun a ha => hw a (List.mem_of_mem_take (List.mem_of_mem_drop ha)))).append fun a ha => hw a (List.mem_of_mem_drop ha)
theorem less_len {w : List Nat} {low high : Nat} (h1 : low < high) (h2 : high < w.length) : (less w low high).length + 2 = w.length := by
  unfold less
  simp only [List.length_append, List.length_take, List.length_drop]
  omega
theorem shortest_iff (W : WF n F) (S : Sys n (fac F)) {w : List Nat} (hw : ok n w) (h100 : w.length ≤ 100) :
    (due n F w).length = w.length ↔ ¬ ∃ low high, low < high ∧ high < w.length ∧ stateL n F (less w low high) = stateL n F w := by
  rw [(due_spec W S hw h100).1]
  constructor
  · rintro h ⟨low, high, h1, h2, e⟩
    have q := (stateL_eqv W (less_ok hw low high) hw).mp e
    have := len_le (less_ok hw low high) q
    have := less_len h1 h2
    omega
  · intro h
    apply Classical.byContradiction
    intro hne
    obtain ⟨u, s, a, t, b, e, q⟩ := deletion S w hw hne
    apply h
    refine ⟨u.length, u.length + 1 + a.length, by omega, ?_, ?_⟩
    · rw [e]; simp; omega
    · have : less w u.length (u.length + 1 + a.length) = u ++ a ++ b := by
        rw [e]; exact less_split u a b s t
      rw [this]
      refine (stateL_eqv W ?_ hw).mpr q.symm
      rw [← this]
      exact less_ok hw _ _
end
end UW
namespace UW
open Gd
/-- a row as the program has it -/
def rowI (g : Bool) (r : List Gd) : List Int := if g then r.map (fun x => x.a) ++ r.map (fun x => x.b) else r.map (fun x => x.a)
def RowOk (g : Bool) (n : Nat) (r : List Gd) : Prop := r.length = n ∧ (g = false → ∀ x ∈ r, x.b = 0)
def FrOk (g : Bool) (n : Nat) (st : List (List Gd)) : Prop := st.length = n ∧ ∀ r ∈ st, RowOk g n r
/-- the factors -/
structure FacOk (g : Bool) (n : Nat) (F : List (List Gd)) : Prop where
  n1 : 1 ≤ n
  n4 : n ≤ 4
  wf : WF n F
  lo : ∀ fs ∈ F, ∀ f ∈ fs, 0 ≤ f.a ∧ f.a ≤ 3 ∧ 0 ≤ f.b ∧ f.b ≤ 1 ∧ (f.b ≠ 0 → f.a = 0)
  ng : g = false → ∀ fs ∈ F, ∀ f ∈ fs, f.b = 0

theorem rowI_len (g : Bool) (r : List Gd) : (rowI g r).length = if g then r.length + r.length else r.length := by
  unfold rowI; cases g <;> simp
theorem rowI_get_a (g : Bool) {r : List Gd} {k : Nat} {x : Gd} (h : r[k]? = some x) : (rowI g r)[k]? = some x.a := by
  have hk := (List.getElem?_eq_some_iff.mp h).1
  unfold rowI
  cases g
  · simp [h]
  · simp only [if_true]
    rw [List.getElem?_append_left (by simpa using hk)]; simp [h]
theorem rowI_get_b {r : List Gd} {k : Nat} {x : Gd} (h : r[k]? = some x) : (rowI true r)[k + r.length]? = some x.b := by
  unfold rowI
  simp only [if_true]
  rw [List.getElem?_append_right (by simp)]; simp [h]
theorem isBelow_int (a : Int) : Gd.isBelow ⟨a, 0⟩ = decide (a < 0) := by
  rw [Bool.eq_iff_iff, isBelow_iff]
  simp only [decide_eq_true_eq]
  have e : nrm ⟨a, 0⟩ = a * a := by unfold nrm; simp
  rw [e]
  have f5 : 0 < a → 0 < a * a := fun h => Int.mul_pos h h
  omega
theorem lowRow_int {r : List Gd} (h : ∀ x ∈ r, x.b = 0) : lowRow r = true ↔ ∃ m ∈ r.map (fun x => x.a), m < 0 := by
  unfold lowRow
  rw [List.any_eq_true]
  constructor
  · rintro ⟨x, hx, hb⟩
    refine ⟨x.a, List.mem_map.mpr ⟨x, hx, rfl⟩, ?_⟩
    have : x = ⟨x.a, 0⟩ := Gd.ext' rfl (h x hx)
    rw [this, isBelow_int] at hb
    exact of_decide_eq_true hb
  · rintro ⟨m, hm, hlt⟩
    obtain ⟨x, hx, rfl⟩ := List.mem_map.mp hm
    refine ⟨x, hx, ?_⟩
    have : x = ⟨x.a, 0⟩ := Gd.ext' rfl (h x hx)
    rw [this, isBelow_int]
    exact decide_eq_true hlt

theorem set_cut {α : Type} (xs : List α) (l : Nat) (v : α) (h : l < xs.length) : xs.set l v = xs.take l ++ v :: xs.drop (l + 1) := by
  rw [List.set_eq_take_append_cons_drop, if_pos h]
theorem rowI_set_f {r : List Gd} {l : Nat} (h : l < r.length) (x : Gd) : rowI false (r.set l x) = (rowI false r).take l ++ x.a :: (rowI false r).drop (l + 1) := by
  unfold rowI
  simp only [Bool.false_eq_true, if_false]
  rw [List.map_set, set_cut _ _ _ (by simpa using h)]
theorem rowI_set_t {r : List Gd} {l : Nat} (h : l < r.length) (x : Gd) :
    rowI true (r.set l x) = (rowI true r).take l ++ x.a :: (((rowI true r).take (l + r.length)).drop (l + 1) ++ x.b :: (rowI true r).drop (l + r.length + 1)) := by
  unfold rowI
  simp only [if_true]
  rw [List.map_set, List.map_set, set_cut _ _ _ (by simpa using h), set_cut _ _ _ (by simpa using h)]
  generalize hA : r.map (fun x => x.a) = A
  generalize hB : r.map (fun x => x.b) = B
  have lA : A.length = r.length := by rw [← hA]; simp
  have lB : B.length = r.length := by rw [← hB]; simp
  have h1 : (A ++ B).take l = A.take l := by rw [List.take_append_of_le_length (by omega)]
  have h2 : (A ++ B).take (l + r.length) = A ++ B.take l := by
    rw [List.take_append, List.take_of_length_le (by omega)]
    congr 2; omega
  have h3 : (A ++ B.take l).drop (l + 1) = A.drop (l + 1) ++ B.take l := by
    rw [List.drop_append_of_le_length (by omega)]
  have h4 : (A ++ B).drop (l + r.length + 1) = B.drop (l + 1) := by
    rw [List.drop_append, List.drop_of_length_le (by omega), List.nil_append]
    congr 1; omega
  rw [h1, h2, h3, h4]
  simp
theorem dot_a : ∀ (fs r : List Gd), (dot fs r).a = (List.zipWith (fun f x => f.a * x.a) fs r).sum + (List.zipWith (fun f x => f.b * x.b) fs r).sum
  | [], _ => by simp [dot, sumL]
  | _ :: _, [] => by simp [dot, sumL]
  | f :: fs, x :: r => by
    have ih := dot_a fs r
    unfold dot sumL at *
    simp only [List.zipWith_cons_cons, List.foldr_cons, List.sum_cons, add_a, mul_a, ih]
    omega
theorem dot_b : ∀ (fs r : List Gd), (dot fs r).b = (List.zipWith (fun f x => f.a * x.b) fs r).sum + (List.zipWith (fun f x => f.b * (x.a + x.b)) fs r).sum
  | [], _ => by simp [dot, sumL]
  | _ :: _, [] => by simp [dot, sumL]
  | f :: fs, x :: r => by
    have ih := dot_b fs r
    unfold dot sumL at *
    simp only [List.zipWith_cons_cons, List.foldr_cons, List.sum_cons, add_b, mul_b, ih, Int.mul_add]
    omega
theorem dot_ng : ∀ (fs r : List Gd), (∀ f ∈ fs, f.b = 0) → (∀ x ∈ r, x.b = 0) → (dot fs r).a = (List.zipWith (fun f x => f.a * x.a) fs r).sum ∧ (dot fs r).b = 0
  | [], _, _, _ => by simp [dot, sumL]
  | _ :: _, [], _, _ => by simp [dot, sumL]
  | f :: fs, x :: r, hf, hr => by
    have ih := dot_ng fs r (fun y hy => hf y (by simp [hy])) (fun y hy => hr y (by simp [hy]))
    have e1 := hf f (by simp)
    have e2 := hr x (by simp)
    unfold dot sumL at *
    simp only [List.zipWith_cons_cons, List.foldr_cons, List.sum_cons, add_a, mul_a, add_b, mul_b, ih.1, ih.2, e1, e2]
    simp
theorem ledL_ok {g : Bool} {n : Nat} {F : List (List Gd)} (hF : FacOk g n F) {l : Nat} (hl : l < n) {r : List Gd} (hr : RowOk g n r) : RowOk g n (ledL F l r) := by
  refine ⟨by unfold ledL; simp [hr.1], fun hg x hx => ?_⟩
  unfold ledL at hx
  rcases List.mem_or_eq_of_mem_set hx with hx | hx
  · exact hr.2 hg x hx
  · subst hx
    have hm : F.getD l [] ∈ F := by
      have : l < F.length := by rw [hF.wf.len]; exact hl
      simp [this]
    have d0 := (dot_ng (F.getD l []) r (hF.ng hg _ hm) (hr.2 hg)).2
    have hx0 : (r.getD l 0).b = 0 := by
      have : l < r.length := by rw [hr.1]; exact hl
      simp only [List.getD_eq_getElem?_getD, List.getElem?_eq_getElem this, Option.getD_some]
      exact hr.2 hg _ (List.getElem_mem this)
    show -(r.getD l 0).b + (dot (F.getD l []) r).b = 0
    rw [hx0, d0]; rfl
theorem zip_ok {g : Bool} {n : Nat} {r o : List Gd} {f : Gd} (hr : RowOk g n r) (ho : RowOk g n o) (hf : g = false → f.b = 0) : RowOk g n (List.zipWith (fun x y => x + f * y) r o) := by
  refine ⟨by simp [hr.1, ho.1], fun hg z hz => ?_⟩
  obtain ⟨k, hk⟩ := List.getElem?_of_mem hz
  rw [List.getElem?_zipWith] at hk
  cases h1 : r[k]? with
  | none => rw [h1] at hk; simp at hk
  | some x =>
    cases h2 : o[k]? with
    | none => rw [h1, h2] at hk; simp at hk
    | some y =>
      rw [h1, h2] at hk
      simp at hk
      subst hk
      have e1 := hr.2 hg x (List.mem_of_getElem? h1)
      have e2 := ho.2 hg y (List.mem_of_getElem? h2)
      simp [e1, e2, hf hg]
theorem neg_ok {g : Bool} {n : Nat} {r : List Gd} (hr : RowOk g n r) : RowOk g n (r.map fun x => -x) := by
  refine ⟨by simp [hr.1], fun hg z hz => ?_⟩
  obtain ⟨x, hx, rfl⟩ := List.mem_map.mp hz
  simp [hr.2 hg x hx]
theorem fac_mem {n : Nat} {F : List (List Gd)} (W : WF n F) {i j : Nat} (hi : i < n) (hj : j < n) : ∃ fs ∈ F, fs = F.getD i [] ∧ fac F i j ∈ fs ∧ fs[j]? = some (fac F i j) ∧ F[i]? = some fs := by
  have h1 : i < F.length := by rw [W.len]; exact hi
  have h2 : j < (F.getD i []).length := by rw [W.rows i hi]; exact hj
  have e : F.getD i [] = F[i] := by simp [h1]
  refine ⟨F.getD i [], by rw [e]; exact List.getElem_mem h1, rfl, ?_, ?_, by rw [e]; exact List.getElem?_eq_getElem h1⟩
  · unfold fac
    simp only [List.getD_eq_getElem?_getD (l := F.getD i []), List.getElem?_eq_getElem h2, Option.getD_some]
    exact List.getElem_mem h2
  · unfold fac
    simp only [List.getD_eq_getElem?_getD (l := F.getD i []), List.getElem?_eq_getElem h2, Option.getD_some]
theorem aheadL_ok {g : Bool} {n : Nat} {F : List (List Gd)} (hF : FacOk g n F) {l : Nat} (hl : l < n) {st : List (List Gd)} (hs : FrOk g n st) : FrOk g n (aheadL F l st) := by
  refine ⟨by unfold aheadL; simp [hs.1], fun r hr => ?_⟩
  unfold aheadL at hr
  obtain ⟨k, hk⟩ := List.getElem?_of_mem hr
  rw [List.getElem?_mapIdx] at hk
  cases h1 : st[k]? with
  | none => rw [h1] at hk; simp at hk
  | some row =>
    rw [h1] at hk
    simp only [Option.map_some, Option.some.injEq] at hk
    have hrow := hs.2 row (List.mem_of_getElem? h1)
    have hkn : k < n := by rw [← hs.1]; exact (List.getElem?_eq_some_iff.mp h1).1
    by_cases e : k = l
    · rw [if_pos e] at hk; subst hk; exact neg_ok hrow
    · rw [if_neg e] at hk
      subst hk
      have hl' : l < st.length := by rw [hs.1]; exact hl
      have hm : st.getD l [] ∈ st := by simp [hl']
      obtain ⟨fs, hfs, _, hmem, _⟩ := fac_mem hF.wf hl hkn
      exact zip_ok hrow (hs.2 _ hm) fun hg => hF.ng hg fs hfs _ hmem
theorem behindL_ok {g : Bool} {n : Nat} {F : List (List Gd)} (hF : FacOk g n F) {l : Nat} (hl : l < n) {st : List (List Gd)} (hs : FrOk g n st) : FrOk g n (behindL F l st) := by
  refine ⟨by unfold behindL; simp [hs.1], fun r hr => ?_⟩
  unfold behindL at hr
  obtain ⟨r', h', rfl⟩ := List.mem_map.mp hr
  exact ledL_ok hF hl (hs.2 r' h')
theorem firstL_ok {g : Bool} {n : Nat} : FrOk g n (firstL n) := by
  refine ⟨by unfold firstL; simp, fun r hr => ?_⟩
  unfold firstL at hr
  obtain ⟨k, _, rfl⟩ := List.mem_map.mp hr
  refine ⟨by simp, fun hg x hx => ?_⟩
  obtain ⟨j, _, rfl⟩ := List.mem_map.mp hx
  split <;> rfl
theorem rowI_ph (r : List Gd) : rowI true (r.map ph) = (rowI true r).drop r.length ++ List.zipWith (fun x y => x + y) (rowI true r) ((rowI true r).drop r.length) := by
  unfold rowI
  simp only [if_true]
  have h1 : (r.map (fun x => x.a) ++ r.map (fun x => x.b)).drop r.length = r.map (fun x => x.b) := by
    rw [List.drop_append, List.drop_of_length_le (by simp)]; simp
  rw [h1]
  simp only [List.map_map]
  congr 1
  apply List.ext_getElem?
  intro k
  rw [List.getElem?_zipWith]
  by_cases hk : k < r.length
  · rw [List.getElem?_append_left (by simpa using hk)]
    simp [hk, ph]
  · simp [hk]
theorem rowI_zip {g : Bool} {n : Nat} {r o : List Gd} {c : Int} (hr : r.length = n) (ho : o.length = n) :
    rowI g (List.zipWith (fun x y => x + (⟨c, 0⟩ : Gd) * y) r o) = List.zipWith (fun x y => x + c * y) (rowI g r) (rowI g o) := by
  have e : ∀ (f : Gd → Int) (hf : ∀ x y, f (x + (⟨c, 0⟩ : Gd) * y) = f x + c * f y), (List.zipWith (fun x y => x + (⟨c, 0⟩ : Gd) * y) r o).map f = List.zipWith (fun x y => x + c * y) (r.map f) (o.map f) := by
    intro f hf
    rw [List.map_zipWith, List.zipWith_map]
    congr 1
    funext x y
    exact hf x y
  unfold rowI
  cases g
  · simp only [Bool.false_eq_true, if_false]
    exact e _ (by intro x y; simp)
  · simp only [if_true]
    rw [List.zipWith_append (by simp [hr, ho]), e (fun x => x.a) (by intro x y; simp), e (fun x => x.b) (by intro x y; simp)]
theorem zip_phi {r o : List Gd} {f : Gd} (hf : f.a = 0) : List.zipWith (fun x y => x + f * y) r o = List.zipWith (fun x y => x + (⟨f.b, 0⟩ : Gd) * y) r (o.map ph) := by
  rw [List.zipWith_map_right]
  congr 1
  funext x y
  apply Gd.ext' <;> simp [hf] <;> grind
theorem zip_int {r o : List Gd} {f : Gd} (hf : f.b = 0) : List.zipWith (fun x y => x + f * y) r o = List.zipWith (fun x y => x + (⟨f.a, 0⟩ : Gd) * y) r o := by
  congr 1
  funext x y
  apply Gd.ext' <;> simp [hf]
theorem zip_zero {n : Nat} {r o : List Gd} (hr : r.length = n) (ho : o.length = n) : List.zipWith (fun x y => x + (⟨0, 0⟩ : Gd) * y) r o = r := by
  apply List.ext_getElem?
  intro k
  rw [List.getElem?_zipWith]
  by_cases hk : k < n
  · simp only [List.getElem?_eq_getElem (show k < r.length by omega), List.getElem?_eq_getElem (show k < o.length by omega)]
    congr 1
    apply Gd.ext' <;> simp
  · simp [show ¬ k < r.length by omega, show ¬ k < o.length by omega]
theorem rowI_neg (g : Bool) (r : List Gd) : rowI g (r.map fun x => -x) = (rowI g r).map fun x => -x := by
  unfold rowI
  cases g <;> simp [Function.comp_def]
theorem rowI_one {g : Bool} {n l : Nat} (hl : l < n) : rowI g ((List.range n).map fun j => if j = l then (1 : Gd) else 0) = (List.range (if g then n + n else n)).map fun k => if k = l then (1 : Int) else 0 := by
  unfold rowI
  cases g
  · simp only [Bool.false_eq_true, if_false, List.map_map]
    apply List.map_congr_left
    intro k _
    show (if k = l then (1 : Gd) else 0).a = _
    split <;> rfl
  · simp only [if_true, List.map_map]
    rw [List.range_add, List.map_append, List.map_map]
    congr 1
    · apply List.map_congr_left
      intro k _
      show (if k = l then (1 : Gd) else 0).a = _
      split <;> rfl
    · apply List.map_congr_left
      intro k _
      show (if k = l then (1 : Gd) else 0).b = if n + k = l then (1 : Int) else 0
      have h2 : ¬ n + k = l := by omega
      rw [if_neg h2]
      split <;> rfl
end UW
namespace UW
open Gd
/-- bounds -/
def Bd (m : Nat) (r : List Gd) : Prop := ∀ x ∈ r, x.a.natAbs ≤ m ∧ x.b.natAbs ≤ m
theorem Bd.mono {m m' : Nat} {r : List Gd} (h : Bd m r) (e : m ≤ m') : Bd m' r := fun x hx => ⟨Nat.le_trans (h x hx).1 e, Nat.le_trans (h x hx).2 e⟩
theorem mul_bd {m : Nat} {f x : Gd} (hf : 0 ≤ f.a ∧ f.a ≤ 3 ∧ 0 ≤ f.b ∧ f.b ≤ 1 ∧ (f.b ≠ 0 → f.a = 0)) (hx : x.a.natAbs ≤ m ∧ x.b.natAbs ≤ m) :
    (f * x).a.natAbs ≤ 3 * m ∧ (f * x).b.natAbs ≤ 3 * m := by
  obtain ⟨h1, h2, h3, h4, h5⟩ := hf
  obtain ⟨x1, x2⟩ := hx
  simp only [mul_a, mul_b]
  have hb : f.b = 0 ∨ f.b = 1 := by omega
  rcases hb with hb | hb
  · rw [hb]
    have ha : f.a = 0 ∨ f.a = 1 ∨ f.a = 2 ∨ f.a = 3 := by omega
    rcases ha with ha | ha | ha | ha <;> rw [ha] <;> constructor <;> omega
  · have ha : f.a = 0 := h5 (by omega)
    rw [hb, ha]
    constructor <;> omega
theorem dot_bd {m : Nat} : ∀ {fs r : List Gd}, (∀ f ∈ fs, 0 ≤ f.a ∧ f.a ≤ 3 ∧ 0 ≤ f.b ∧ f.b ≤ 1 ∧ (f.b ≠ 0 → f.a = 0)) → Bd m r → (dot fs r).a.natAbs ≤ r.length * (3 * m) ∧ (dot fs r).b.natAbs ≤ r.length * (3 * m)
  | [], r, _, _ => by simp [dot, sumL]
  | _ :: _, [], _, _ => by simp [dot, sumL]
  | f :: fs, x :: r, hf, hr => by
    have ih := dot_bd (m := m) (fs := fs) (r := r) (fun y hy => hf y (by simp [hy])) (fun y hy => hr y (by simp [hy]))
    have h1 := mul_bd (hf f (by simp)) (hr x (by simp))
    unfold dot sumL at *
    simp only [List.zipWith_cons_cons, List.foldr_cons, List.length_cons, add_a, add_b]
    rw [Nat.succ_mul]
    constructor <;> omega
theorem ledL_bd {g : Bool} {n m : Nat} {F : List (List Gd)} (hF : FacOk g n F) {l : Nat} (hl : l < n) {r : List Gd} (hr : RowOk g n r) (hb : Bd m r) : Bd (16 * m) (ledL F l r) := by
  intro x hx
  unfold ledL at hx
  rcases List.mem_or_eq_of_mem_set hx with hx | hx
  · have := hb x hx
    constructor <;> omega
  · subst hx
    have hm : F.getD l [] ∈ F := by
      have : l < F.length := by rw [hF.wf.len]; exact hl
      simp [this]
    have d := dot_bd (m := m) (hF.lo _ hm) hb
    have hx0 : r.getD l 0 ∈ r := by
      have : l < r.length := by rw [hr.1]; exact hl
      simp [this]
    have h0 := hb _ hx0
    have h4 : r.length * (3 * m) ≤ 4 * (3 * m) := Nat.mul_le_mul_right _ (by rw [hr.1]; exact hF.n4)
    simp only [add_a, add_b, neg_a, neg_b]
    constructor <;> omega
theorem stateL_ok {g : Bool} {n : Nat} {F : List (List Gd)} (hF : FacOk g n F) {w : List Nat} (hw : ok n w) : FrOk g n (stateL n F w) := by
  have key : ∀ (u : List Nat) (st : List (List Gd)), ok n u → FrOk g n st → FrOk g n (u.foldl (fun st l => behindL F l st) st) := by
    intro u
    induction u with
    | nil => intro st _ h; exact h
    | cons l u ih => intro st hu h; exact ih _ hu.tail (behindL_ok hF hu.head h)
  exact key w _ hw firstL_ok
theorem stateL_bd {g : Bool} {n : Nat} {F : List (List Gd)} (hF : FacOk g n F) {w : List Nat} (hw : ok n w) : ∀ r ∈ stateL n F w, Bd (16 ^ w.length) r := by
  have key : ∀ (u : List Nat) (st : List (List Gd)) (m : Nat), ok n u → FrOk g n st → (∀ r ∈ st, Bd m r) → ∀ r ∈ u.foldl (fun st l => behindL F l st) st, Bd (16 ^ u.length * m) r := by
    intro u
    induction u with
    | nil => intro st m _ _ h r hr; simpa using h r hr
    | cons l u ih =>
      intro st m hu ho h r hr
      have := ih (behindL F l st) (16 * m) hu.tail (behindL_ok hF hu.head ho) (fun r' hr' => by
        unfold behindL at hr'
        obtain ⟨r0, h0, rfl⟩ := List.mem_map.mp hr'
        exact ledL_bd hF hu.head (ho.2 r0 h0) (h r0 h0)) r hr
      refine this.mono ?_
      rw [List.length_cons, Nat.pow_succ, Nat.mul_assoc]
      exact Nat.le_refl _
  intro r hr
  have := key w (firstL n) 1 hw firstL_ok (fun r hr x hx => by
    unfold firstL at hr
    obtain ⟨k, _, rfl⟩ := List.mem_map.mp hr
    obtain ⟨j, _, rfl⟩ := List.mem_map.mp hx
    split
    · exact ⟨by decide, by decide⟩
    · exact ⟨by decide, by decide⟩) r hr
  rwa [Nat.mul_one] at this
/-- .. of words of at most 200 letters -/
theorem stateL_small {g : Bool} {n : Nat} {F : List (List Gd)} (hF : FacOk g n F) {w : List Nat} (hw : ok n w) (hl : w.length ≤ 200) : ∀ r ∈ stateL n F w, ∀ x ∈ r, x.a.natAbs < 2 ^ 1000 ∧ x.b.natAbs < 2 ^ 1000 := by
  intro r hr x hx
  have h := stateL_bd hF hw r hr x hx
  have h16 : (16 : Nat) ^ w.length ≤ 16 ^ 200 := Nat.pow_le_pow_right (by decide) hl
  have h3 : (16 : Nat) ^ 200 = 2 ^ 800 := by rw [show (16 : Nat) = 2 ^ 4 from rfl, ← Nat.pow_mul]
  have h2 : (2 : Nat) ^ 800 < 2 ^ 1000 := Nat.pow_lt_pow_right (by decide) (by decide)
  rw [h3] at h16
  exact ⟨Nat.lt_of_le_of_lt h.1 (Nat.lt_of_le_of_lt h16 h2), Nat.lt_of_le_of_lt h.2 (Nat.lt_of_le_of_lt h16 h2)⟩
/-- the state ahead, as the program makes it -/
theorem ahead_eq {g : Bool} {n : Nat} {F : List (List Gd)} (hF : FacOk g n F) {l : Nat} (hl : l < n) {st : List (List Gd)} (hs : st.length = n) {fs head : List Gd} (hfs : F[l]? = some fs) (hh : st[l]? = some head) :
    (List.zipWith (fun row f => List.zipWith (fun x y => x + f * y) row head) st fs).set l (head.map fun x => -x) = aheadL F l st := by
  have efs : F.getD l [] = fs := by simp [hfs]
  have ehd : st.getD l [] = head := by simp [hh]
  have lfs : fs.length = n := by rw [← efs]; exact hF.wf.rows l hl
  unfold aheadL
  rw [ehd]
  apply List.ext_getElem?
  intro k
  rw [List.getElem?_set, List.getElem?_mapIdx, List.getElem?_zipWith]
  by_cases hk : k < n
  · have h1 : st[k]? = some (st[k]'(by omega)) := List.getElem?_eq_getElem _
    have h2 : fs[k]? = some (fs[k]'(by omega)) := List.getElem?_eq_getElem _
    by_cases e : l = k
    · subst e
      rw [if_pos rfl, if_pos (by simp; omega), hh]
      simp
    · rw [if_neg e, h1, h2]
      simp only [Option.map_some]
      rw [if_neg (fun z => e z.symm)]
      have : fac F l k = fs[k]'(by omega) := by
        unfold fac
        rw [efs]
        simp [lfs, hk]
      rw [this]
  · have h1 : st[k]? = none := List.getElem?_eq_none (by omega)
    rw [if_neg (by omega), h1]
    rfl
theorem leftsL_head (st : List (List Gd)) : (leftsL st).head? = (List.range st.length).find? fun l => lowRow (st.getD l []) := by
  unfold leftsL
  rw [List.head?_filter]
end UW
namespace UW
open Gd
/-! bonds and their factors -/
def pairB (b : Nat) : Gd × Gd := match b with
  | 0 => (⟨2, 0⟩, ⟨2, 0⟩)
  | 3 => (⟨1, 0⟩, ⟨1, 0⟩)
  | 4 => (⟨1, 0⟩, ⟨2, 0⟩)
  | 5 => (⟨0, 1⟩, ⟨0, 1⟩)
  | 6 => (⟨1, 0⟩, ⟨3, 0⟩)
  | _ => (0, 0)
def isB (b : Nat) : Prop := b = 0 ∨ b = 3 ∨ b = 4 ∨ b = 5 ∨ b = 6
abbrev Bo := Nat × Nat × Nat
structure BOk (n : Nat) (b : Bo) : Prop where
  lt : b.1 < b.2.1
  le : b.2.1 < n
  bd : isB b.2.2
structure VB (n : Nat) (bs : List Bo) : Prop where
  n1 : 1 ≤ n
  n4 : n ≤ 4
  all : ∀ b ∈ bs, BOk n b
  asc : ∀ (k : Nat) (a b : Bo), bs[k]? = some a → bs[k + 1]? = some b → a.1 < b.1 ∨ (a.1 = b.1 ∧ a.2.1 < b.2.1)
  few : bs.length ≤ 100
def zeroF (n : Nat) : List (List Gd) := List.replicate n (List.replicate n 0)
def setF (F : List (List Gd)) (i j : Nat) (v : Gd) : List (List Gd) := F.set i ((F.getD i []).set j v)
def putB (F : List (List Gd)) (b : Bo) : List (List Gd) := setF (setF F b.1 b.2.1 (pairB b.2.2).1) b.2.1 b.1 (pairB b.2.2).2
def facs (n : Nat) (bs : List Bo) : List (List Gd) := bs.foldl putB (zeroF n)
def goldB (bs : List Bo) : Bool := bs.any fun b => decide (b.2.2 = 5)
def Lo (f : Gd) : Prop := 0 ≤ f.a ∧ f.a ≤ 3 ∧ 0 ≤ f.b ∧ f.b ≤ 1 ∧ (f.b ≠ 0 → f.a = 0)
theorem wf_zero (n : Nat) : WF n (zeroF n) := by
  refine ⟨by simp [zeroF], fun i hi => ?_⟩
  unfold zeroF
  simp [hi]
theorem wf_set {n : Nat} {F : List (List Gd)} (W : WF n F) (i j : Nat) (v : Gd) : WF n (setF F i j v) := by
  refine ⟨by unfold setF; simp [W.len], fun k hk => ?_⟩
  unfold setF
  have hk' : k < F.length := by rw [W.len]; exact hk
  simp only [List.getD_eq_getElem?_getD, List.getElem?_set]
  by_cases e : i = k
  · subst e
    rw [if_pos rfl, if_pos hk']
    have := W.rows i hk
    simpa using this
  · rw [if_neg e]
    have := W.rows k hk
    simpa using this
theorem fac_set {n : Nat} {F : List (List Gd)} (W : WF n F) {i j a b : Nat} (hi : i < n) (hj : j < n) (v : Gd) : fac (setF F i j v) a b = if a = i ∧ b = j then v else fac F a b := by
  unfold fac setF
  have hi' : i < F.length := by rw [W.len]; exact hi
  simp only [List.getD_eq_getElem?_getD, List.getElem?_set]
  by_cases e : i = a
  · subst e
    rw [if_pos rfl, if_pos hi']
    simp only [Option.getD_some]
    have hl : (F[i]?.getD []).length = n := by have := W.rows i hi; simpa using this
    rw [List.getElem?_set]
    by_cases e2 : j = b
    · subst e2
      rw [if_pos rfl, if_pos (by rw [hl]; exact hj)]
      simp
    · rw [if_neg e2, if_neg (fun h => e2 h.2.symm)]
  · rw [if_neg e, if_neg (fun h => e h.1.symm)]
theorem wf_fold {n : Nat} (cs : List Bo) : WF n (cs.foldl putB (zeroF n)) := by
  have key : ∀ (cs : List Bo) (F : List (List Gd)), WF n F → WF n (cs.foldl putB F) := by
    intro cs
    induction cs with
    | nil => intro F h; exact h
    | cons b cs ih => intro F h; exact ih _ (wf_set (wf_set h _ _ _) _ _ _)
  exact key cs _ (wf_zero n)
theorem fac_zero (n i j : Nat) : fac (zeroF n) i j = 0 := by
  unfold fac zeroF
  simp only [List.getD_eq_getElem?_getD, List.getElem?_replicate]
  by_cases hi : i < n
  · rw [if_pos hi]
    simp only [Option.getD_some, List.getElem?_replicate]
    by_cases hj : j < n
    · rw [if_pos hj]; rfl
    · rw [if_neg hj]; rfl
  · rw [if_neg hi]; rfl
structure Good (n : Nat) (g : Bool) (F : List (List Gd)) : Prop where
  wf : WF n F
  diag : ∀ s, s < n → fac F s s = 0
  bond : ∀ s t, s < n → t < n → s ≠ t → Bond (fac F s t) (fac F t s)
  lo : ∀ s t, s < n → t < n → Lo (fac F s t)
  ng : g = false → ∀ s t, s < n → t < n → (fac F s t).b = 0
theorem good_zero (n : Nat) (g : Bool) : Good n g (zeroF n) := by
  refine ⟨wf_zero n, fun s _ => fac_zero n s s, fun s t _ _ _ => ?_, fun s t _ _ => ?_, fun _ s t _ _ => ?_⟩
  · rw [fac_zero, fac_zero]; exact .inl ⟨rfl, rfl⟩
  · rw [fac_zero]; exact ⟨by decide, by decide, by decide, by decide, by decide⟩
  · rw [fac_zero]; rfl
theorem pair_bond {b : Nat} (h : isB b) : Bond (pairB b).1 (pairB b).2 ∧ Bond (pairB b).2 (pairB b).1 ∧ Lo (pairB b).1 ∧ Lo (pairB b).2 := by
  have one : (⟨1, 0⟩ : Gd) = 1 := rfl
  rcases h with h | h | h | h | h <;> subst h <;> unfold pairB <;> refine ⟨?_, ?_, ?_, ?_⟩ <;>
    first
    | exact ⟨by decide, by decide, by decide, by decide, by decide⟩
    | (unfold Bond; simp only [one]; simp)
theorem pair_ng {b : Nat} (h : isB b) (h5 : b ≠ 5) : (pairB b).1.b = 0 ∧ (pairB b).2.b = 0 := by
  rcases h with h | h | h | h | h <;> subst h <;> first | exact ⟨rfl, rfl⟩ | exact absurd rfl h5
theorem good_put {n : Nat} {g : Bool} {F : List (List Gd)} (G : Good n g F) {b : Bo} (hb : BOk n b) (hg : g = false → b.2.2 ≠ 5) : Good n g (putB F b) := by
  obtain ⟨h1, h2, h3⟩ := hb
  have hl : b.1 < n := by omega
  have W1 := wf_set G.wf b.1 b.2.1 (pairB b.2.2).1
  have e : ∀ s t, fac (putB F b) s t = if s = b.2.1 ∧ t = b.1 then (pairB b.2.2).2 else if s = b.1 ∧ t = b.2.1 then (pairB b.2.2).1 else fac F s t := by
    intro s t
    unfold putB
    rw [fac_set W1 h2 hl, fac_set G.wf hl h2]
  obtain ⟨p1, p2, p3, p4⟩ := pair_bond h3
  refine ⟨wf_set W1 _ _ _, fun s hs => ?_, fun s t hs ht hst => ?_, fun s t hs ht => ?_, fun hgf s t hs ht => ?_⟩
  · rw [e, if_neg (by omega), if_neg (by omega)]; exact G.diag s hs
  · rw [e, e]
    by_cases c1 : s = b.2.1 ∧ t = b.1
    · rw [if_pos c1, if_neg (by omega), if_pos (by omega)]; exact p2
    · rw [if_neg c1]
      by_cases c2 : s = b.1 ∧ t = b.2.1
      · rw [if_pos c2, if_pos (by omega)]; exact p1
      · rw [if_neg c2, if_neg (by omega), if_neg (by omega)]; exact G.bond s t hs ht hst
  · rw [e]
    split
    · exact p4
    · split
      · exact p3
      · exact G.lo s t hs ht
  · rw [e]
    obtain ⟨q1, q2⟩ := pair_ng h3 (hg hgf)
    split
    · exact q2
    · split
      · exact q1
      · exact G.ng hgf s t hs ht
theorem good_facs {n : Nat} {bs : List Bo} (hV : ∀ b ∈ bs, BOk n b) : Good n (goldB bs) (facs n bs) := by
  have key : ∀ (cs : List Bo) (F : List (List Gd)), (∀ b ∈ cs, b ∈ bs) → Good n (goldB bs) F → Good n (goldB bs) (cs.foldl putB F) := by
    intro cs
    induction cs with
    | nil => intro F _ h; exact h
    | cons b cs ih =>
      intro F hc G
      refine ih _ (fun x hx => hc x (by simp [hx])) (good_put G (hV b (hc b (by simp))) fun hg h5 => ?_)
      have : goldB bs = true := by
        unfold goldB
        rw [List.any_eq_true]
        exact ⟨b, hc b (by simp), by simp [h5]⟩
      rw [this] at hg; cases hg
  exact key bs _ (fun _ h => h) (good_zero n _)
theorem facs_ok {n : Nat} {bs : List Bo} (hV : VB n bs) : FacOk (goldB bs) n (facs n bs) := by
  have G := good_facs hV.all
  have at_ : ∀ fs ∈ facs n bs, ∀ f ∈ fs, ∃ i j, i < n ∧ j < n ∧ f = fac (facs n bs) i j := by
    intro fs hfs f hf
    obtain ⟨i, hi⟩ := List.getElem?_of_mem hfs
    obtain ⟨j, hj⟩ := List.getElem?_of_mem hf
    have hin : i < n := by rw [← G.wf.len]; exact (List.getElem?_eq_some_iff.mp hi).1
    have e : (facs n bs).getD i [] = fs := by simp [hi]
    have hjn : j < n := by
      have := G.wf.rows i hin
      rw [e] at this
      rw [← this]; exact (List.getElem?_eq_some_iff.mp hj).1
    refine ⟨i, j, hin, hjn, ?_⟩
    unfold fac
    rw [e]
    simp [hj]
  refine ⟨hV.n1, hV.n4, G.wf, fun fs hfs f hf => ?_, fun hg fs hfs f hf => ?_⟩
  · obtain ⟨i, j, hi, hj, rfl⟩ := at_ fs hfs f hf
    exact G.lo i j hi hj
  · obtain ⟨i, j, hi, hj, rfl⟩ := at_ fs hfs f hf
    exact G.ng hg i j hi hj
theorem facs_sys {n : Nat} {bs : List Bo} (hV : VB n bs) : Sys n (fac (facs n bs)) := by
  have G := good_facs hV.all
  exact ⟨G.diag, G.bond⟩
end UW
namespace UW
open PySem L2 Evl

/-- what is known stays known; tables of code objects may grow -/
structure Ex (H H' : Hp) : Prop where
  all : ∀ a o, H a = some o → (∀ ps, o ≠ .tbl ps) → H' a = some o
  tab : ∀ a ps, H a = some (.tbl ps) → ∃ ps', H' a = some (.tbl ps') ∧ (TriplesOk ps.toList → TriplesOk ps'.toList)
theorem Ex.refl (H : Hp) : Ex H H := ⟨fun _ _ h _ => h, fun _ ps h => ⟨ps, h, fun t => t⟩⟩
theorem Ex.trans {H H1 H2 : Hp} (a : Ex H H1) (b : Ex H1 H2) : Ex H H2 := ⟨fun x o h n => b.all x o (a.all x o h n) n, fun x ps h => by
  obtain ⟨ps1, h1, t1⟩ := a.tab x ps h
  obtain ⟨ps2, h2, t2⟩ := b.tab x ps1 h1
  exact ⟨ps2, h2, fun t => t2 (t1 t)⟩⟩
theorem Ex.of {H H' : Hp} (e : ∀ a o, H a = some o → H' a = some o) : Ex H H' := ⟨fun a o h _ => e a o h, fun a ps h => ⟨ps, e a _ h, fun t => t⟩⟩
theorem Ex.there {H H' : Hp} {a : Addr} {o : HO} (e : Ex H H') (h : H a = some o) : ∃ o', H' a = some o' := by
  by_cases t : ∃ ps, o = .tbl ps
  · obtain ⟨ps, rfl⟩ := t
    obtain ⟨ps', h', _⟩ := e.tab a ps h
    exact ⟨_, h'⟩
  · exact ⟨_, e.all a o h fun ps z => t ⟨ps, z⟩⟩
theorem fresh_back {H H' : Hp} {p : Addr} (e : Ex H H') (h : H' p = none) : H p = none := by
  cases q : H p with
  | none => rfl
  | some o =>
    obtain ⟨o', q'⟩ := e.there q
    rw [h] at q'; cases q'
theorem Ex.new {H : Hp} {p : Addr} {o : HO} (h : H p = none) : Ex H (upd H p o) := Ex.of (Evl.Ex.new h)
theorem Ex.mut {H H' : Hp} {p : Addr} {o : HO} (e : Ex H H') (h : H p = none) : Ex H (upd H' p o) := by
  have ne : ∀ a u, H a = some u → a ≠ p := fun a u q z => by rw [z, h] at q; cases q
  refine ⟨fun a u q n => ?_, fun a ps q => ?_⟩
  · rw [upd_ne (ne a u q)]; exact e.all a u q n
  · rw [upd_ne (ne a _ q)]; exact e.tab a ps q
theorem ex_rd {H H' : Hp} {a : Addr} {u : HO} (e : Ex H H') (n : ∀ ps, u ≠ .tbl ps) (h : L2.Rd H a u) : L2.Rd H' a u := by
  rcases h with h | ⟨o, h⟩
  · exact .inl (e.all _ _ h n)
  · exact .inr ⟨o, e.all _ _ h fun ps z => by cases z⟩
theorem ex_l {K : PySem.W.Frag} {H H' : Hp} {a : Addr} {xs : List V} (e : Ex H H') (h : SqL K H a xs) : SqL K H' a xs := h.imp (ex_rd e fun ps z => by cases z) id
theorem ex_t {K : PySem.W.Frag} {H H' : Hp} {a : Addr} {xs : List V} (e : Ex H H') (h : SqT K H a xs) : SqT K H' a xs := h.imp (ex_rd e fun ps z => by cases z) id
theorem slO_tbl {a C dx : Addr} {vs : List (Option V)} (ps : Array Value) : SlX.SlO a C dx vs ≠ .tbl ps := fun z => by
  unfold SlX.SlO at z
  cases z
/-- a table of code objects -/
def Tab (P : Addr) (H : Hp) : Prop := ∃ ps : Array Value, H P = some (.tbl ps) ∧ TriplesOk ps.toList
theorem Tab.ex {P : Addr} {H H' : Hp} (e : Ex H H') (t : Tab P H) : Tab P H' := by
  obtain ⟨ps, h, k⟩ := t
  obtain ⟨ps', h', k'⟩ := e.tab P ps h
  exact ⟨ps', h', k' k⟩
section
variable {t u : TT} {σ : L2.St} {H : Hp}
def EvT (tt : TT) (σ : L2.St) (H : Hp) (b : Bool) : Prop := ∀ H1, Ex H H1 → ∀ Q : Bool → Hp → Prop, (∀ H2, Ex H1 H2 → Q b H2) → tt σ H1 Q
def EvO (to : TO) (σ : L2.St) (H : Hp) (o : Option Int) : Prop := ∀ H1, Ex H H1 → ∀ Q : Option Int → Hp → Prop, (∀ H2, Ex H1 H2 → Q o H2) → to σ H1 Q
theorem EvT.mono {H' : Hp} {b : Bool} (e : Ex H H') (h : EvT t σ H b) : EvT t σ H' b := fun H1 a Q q => h H1 (e.trans a) Q q
theorem et_and {a b : Bool} (h1 : EvT t σ H a) (h2 : a = true → EvT u σ H b) : EvT (tAnd t u) σ H (a && b) := fun H1 e Q q => h1 H1 e _ fun H2 e2 => by
  cases a with
  | true =>
    show u σ H2 Q
    exact h2 rfl H2 (e.trans e2) Q fun H3 e3 => q H3 (e2.trans e3)
  | false =>
    show Q false H2
    exact q H2 e2
theorem et_or {a b : Bool} (h1 : EvT t σ H a) (h2 : a = false → EvT u σ H b) : EvT (tOr t u) σ H (a || b) := fun H1 e Q q => h1 H1 e _ fun H2 e2 => by
  cases a with
  | true =>
    show Q true H2
    exact q H2 e2
  | false =>
    show u σ H2 Q
    exact h2 rfl H2 (e.trans e2) Q fun H3 e3 => q H3 (e2.trans e3)
theorem et_not {a : Bool} (h1 : EvT t σ H a) : EvT (tNot t) σ H (!a) := fun H1 e _ q => h1 H1 e _ fun H2 e2 => q H2 e2
theorem et_is {a b : Bool} (h : EvT t σ H a) (e : a = b) : EvT t σ H b := e ▸ h
theorem eo_none : EvO tNoPart σ H none := fun H1 _ _ q => q H1 (Ex.refl H1)
end
/-- what a system holds -/
structure Sy where
  n : Nat
  F : List (List Gd)
  golden : Bool

/-- data -/
inductive Dt where
  | non
  | bl (b : Bool)
  | int (i : Int)
  | tup (ds : List Dt)
  | lst (ds : List Dt)
  | sys (S : Sy)

def gdD (x : Gd) : Dt := .tup [.int x.a, .int x.b]
def rowD (r : List Gd) : Dt := .tup (r.map gdD)
def facD (F : List (List Gd)) : Dt := .tup (F.map rowD)
def facL (F : List (List Gd)) : Dt := .lst (F.map fun r => .lst (r.map gdD))
def wordD (w : List Nat) : Dt := .tup (w.map fun (a : Nat) => Dt.int (a : Int))

mutual
/-- no list within -/
def noL : Dt → Bool
  | .tup ds => noLs ds
  | .lst _ => false
  | .non => true
  | .bl _ => true
  | .int _ => true
  | .sys _ => true
def noLs : List Dt → Bool
  | [] => true
  | d :: ds => noL d && noLs ds
end

mutual
inductive Tp (K : PySem.W.Frag) (C : Addr) (H : Hp) : V → Dt → Prop
  | non : Tp K C H .non .non
  | bl (b : Bool) : Tp K C H (.bl b) (.bl b)
  | int (i : Int) : Tp K C H (.int i) (.int i)
  | tup {a : Addr} {xs : List V} {ds : List Dt} : SqT K H a xs → TpAll K C H xs ds → Tp K C H (.ref a) (.tup ds)
  | lst {a : Addr} {xs : List V} {ds : List Dt} : SqL K H a xs → TpAll K C H xs ds → Tp K C H (.ref a) (.lst ds)
  | sys {a dx : Addr} {vb vf : V} {S : Sy} : H a = some (SlX.SlO a C dx [some vb, some vf, some (.bl S.golden), some (.int S.n)]) → H dx = some (.xd []) →
      Tp K C H vf (facD S.F) → Tp K C H (.ref a) (.sys S)
inductive TpAll (K : PySem.W.Frag) (C : Addr) (H : Hp) : List V → List Dt → Prop
  | nil : TpAll K C H [] []
  | cons {v : V} {vs : List V} {d : Dt} {ds : List Dt} : Tp K C H v d → TpAll K C H vs ds → TpAll K C H (v :: vs) (d :: ds)
end

section
variable {K : PySem.W.Frag} {C : Addr} {H H' : Hp}
mutual
theorem Tp.ex (e : Ex H H') : ∀ {v : V} {d : Dt}, Tp K C H v d → Tp K C H' v d
  | _, _, .non => .non
  | _, _, .bl b => .bl b
  | _, _, .int i => .int i
  | _, _, .tup h a => .tup (ex_t e h) (TpAll.ex e a)
  | _, _, .lst h a => .lst (ex_l e h) (TpAll.ex e a)
  | _, _, .sys h1 h2 f => .sys (e.all _ _ h1 slO_tbl) (e.all _ _ h2 fun ps z => by cases z) (Tp.ex e f)
theorem TpAll.ex (e : Ex H H') : ∀ {vs : List V} {ds : List Dt}, TpAll K C H vs ds → TpAll K C H' vs ds
  | _, _, .nil => .nil
  | _, _, .cons h t => .cons (Tp.ex e h) (TpAll.ex e t)
end
theorem slO_lst {a C dx : Addr} {vs : List (Option V)} {xs : List V} : SlX.SlO a C dx vs ≠ .lst xs := fun z => by
  unfold SlX.SlO at z
  cases z
theorem rd_upd {a p : Addr} {u o : HO} (hp : ∃ xs, H p = some (.lst xs)) (hu : ∀ xs, u ≠ .lst xs) (h : L2.Rd H a u) : L2.Rd (upd H p o) a u := by
  obtain ⟨xs, hp⟩ := hp
  rcases h with h | ⟨ob, h⟩
  · have : a ≠ p := by
      intro e; subst e; rw [hp] at h; exact hu xs (Option.some.inj h).symm
    exact .inl (by rw [upd_ne this]; exact h)
  · have : a ≠ p := by
      intro e; subst e; rw [hp] at h; cases h
    exact .inr ⟨ob, by rw [upd_ne this]; exact h⟩
mutual
theorem noL_gd : ∀ (x : Gd), noL (gdD x) = true := fun _ => rfl
end
mutual
/-- a list that changes leaves data without lists -/
theorem Tp.upd {p : Addr} {o : HO} (hp : ∃ xs, H p = some (.lst xs)) : ∀ {v : V} {d : Dt}, noL d = true → Tp K C H v d → Tp K C (L2.upd H p o) v d
  | _, _, _, .non => .non
  | _, _, _, .bl b => .bl b
  | _, _, _, .int i => .int i
  | _, _, n, .tup h a => .tup (by
      rcases h with h | h
      · exact .inl (rd_upd hp (fun _ => by intro z; cases z) h)
      · exact .inr h) (TpAll.upd hp (by simpa [noL] using n) a)
  | _, _, n, .lst h a => by simp [noL] at n
  | _, _, _, .sys (a := a) (dx := dx) h1 h2 f => by
      obtain ⟨xs, hx⟩ := hp
      have e1 : a ≠ p := by intro e; subst e; rw [hx] at h1; exact slO_lst (Option.some.inj h1).symm
      have e2 : dx ≠ p := by intro e; subst e; rw [hx] at h2; cases h2
      refine .sys (by rw [upd_ne e1]; exact h1) (by rw [upd_ne e2]; exact h2) (Tp.upd ⟨xs, hx⟩ ?_ f)
      have q : ∀ ds : List Dt, (∀ d ∈ ds, noL d = true) → noLs ds = true := by
        intro ds
        induction ds with
        | nil => intro _; simp [noLs]
        | cons d ds ih => intro h; simp only [noLs, Bool.and_eq_true]; exact ⟨h d (by simp), ih fun x hx => h x (by simp [hx])⟩
      unfold facD
      simp only [noL]
      apply q
      intro d hd
      obtain ⟨r, _, rfl⟩ := List.mem_map.mp hd
      unfold rowD
      simp only [noL]
      apply q
      intro d hd
      obtain ⟨x, _, rfl⟩ := List.mem_map.mp hd
      exact noL_gd x
theorem TpAll.upd {p : Addr} {o : HO} (hp : ∃ xs, H p = some (.lst xs)) : ∀ {vs : List V} {ds : List Dt}, noLs ds = true → TpAll K C H vs ds → TpAll K C (L2.upd H p o) vs ds
  | _, _, _, .nil => .nil
  | _, _, n, .cons h t => by
      simp only [noLs, Bool.and_eq_true] at n
      exact .cons (Tp.upd hp n.1 h) (TpAll.upd hp n.2 t)
end
end
end UW
namespace UW
open PySem L2 Evl StX SlX ClX

theorem noLs_iff : ∀ {ds : List Dt}, noLs ds = true ↔ ∀ d ∈ ds, noL d = true
  | [] => by simp [noLs]
  | d :: ds => by
    simp only [noLs, Bool.and_eq_true, List.mem_cons, forall_eq_or_imp]
    rw [noLs_iff]
@[simp] theorem noL_tup {ds : List Dt} : noL (.tup ds) = noLs ds := by simp [noL]
@[simp] theorem noL_int {i : Int} : noL (.int i) = true := by simp [noL]
@[simp] theorem noL_bl {i : Bool} : noL (.bl i) = true := by simp [noL]
@[simp] theorem noL_non : noL .non = true := by simp [noL]
@[simp] theorem noLs_nil : noLs [] = true := by simp [noLs]
@[simp] theorem noLs_cons {d : Dt} {ds : List Dt} : noLs (d :: ds) = (noL d && noLs ds) := by simp [noLs]
@[simp] theorem noL_gdD {x : Gd} : noL (gdD x) = true := rfl
@[simp] theorem noL_rowD {r : List Gd} : noL (rowD r) = true := by
  unfold rowD; rw [noL_tup, noLs_iff]; intro d hd
  obtain ⟨x, _, rfl⟩ := List.mem_map.mp hd; exact noL_gdD
@[simp] theorem noL_facD {r : List (List Gd)} : noL (facD r) = true := by
  unfold facD; rw [noL_tup, noLs_iff]; intro d hd
  obtain ⟨x, _, rfl⟩ := List.mem_map.mp hd; exact noL_rowD
@[simp] theorem noL_wordD {r : List Nat} : noL (wordD r) = true := by
  unfold wordD; rw [noL_tup, noLs_iff]; intro d hd
  obtain ⟨x, _, rfl⟩ := List.mem_map.mp hd; exact noL_int

section
variable {K : PySem.W.Frag} {C : Addr} {H H' : Hp}

theorem TpAll.length : ∀ {vs : List V} {ds : List Dt}, TpAll K C H vs ds → vs.length = ds.length
  | _, _, .nil => rfl
  | _, _, .cons _ t => by simp [TpAll.length t]
theorem TpAll.get : ∀ {vs : List V} {ds : List Dt} {i : Nat} {d : Dt}, TpAll K C H vs ds → ds[i]? = some d → ∃ v, vs[i]? = some v ∧ Tp K C H v d
  | _, _, i, d, .nil, h => by simp at h
  | _, _, 0, d, .cons a t, h => by
    simp only [List.getElem?_cons_zero] at h
    exact ⟨_, rfl, (Option.some.inj h) ▸ a⟩
  | _, _, i + 1, d, .cons a t, h => by
    simp only [List.getElem?_cons_succ] at h ⊢
    exact TpAll.get t h
theorem TpAll.get' {vs : List V} {ds : List Dt} {i : Nat} {v : V} (a : TpAll K C H vs ds) (h : vs[i]? = some v) : ∃ d, ds[i]? = some d ∧ Tp K C H v d := by
  have hl := a.length
  have hi : i < ds.length := by
    have := (List.getElem?_eq_some_iff.mp h).1
    omega
  obtain ⟨v', e, t⟩ := a.get (List.getElem?_eq_getElem hi)
  rw [h] at e
  cases e
  exact ⟨_, List.getElem?_eq_getElem hi, t⟩
theorem TpAll.app : ∀ {vs ws : List V} {ds es : List Dt}, TpAll K C H vs ds → TpAll K C H ws es → TpAll K C H (vs ++ ws) (ds ++ es)
  | _, _, _, _, .nil, h => h
  | _, _, _, _, .cons a t, h => .cons a (TpAll.app t h)
theorem TpAll.of : ∀ {vs : List V} {ds : List Dt}, vs.length = ds.length → (∀ (i : Nat) (v : V) (d : Dt), vs[i]? = some v → ds[i]? = some d → Tp K C H v d) → TpAll K C H vs ds
  | [], [], _, _ => .nil
  | v :: vs, d :: ds, hl, h => .cons (h 0 v d rfl rfl) (TpAll.of (by simpa using hl) fun i v' d' e e' => h (i + 1) v' d' (by simpa using e) (by simpa using e'))
  | [], d :: ds, hl, _ => by simp at hl
  | v :: vs, [], hl, _ => by simp at hl
theorem TpAll.take {vs : List V} {ds : List Dt} (n : Nat) (a : TpAll K C H vs ds) : TpAll K C H (vs.take n) (ds.take n) := by
  refine TpAll.of (by simp [a.length]) fun i v d e e' => ?_
  rw [List.getElem?_take] at e e'
  split at e
  · rename_i h
    rw [if_pos h] at e'
    obtain ⟨d', q, t⟩ := a.get' e
    rw [q] at e'; cases e'; exact t
  · cases e
theorem TpAll.drop {vs : List V} {ds : List Dt} (n : Nat) (a : TpAll K C H vs ds) : TpAll K C H (vs.drop n) (ds.drop n) := by
  refine TpAll.of (by simp [a.length]) fun i v d e e' => ?_
  rw [List.getElem?_drop] at e e'
  obtain ⟨d', q, t⟩ := a.get' e
  rw [q] at e'; cases e'; exact t
theorem TpAll.ints {ns : List Int} : ∀ {vs : List V}, TpAll K C H vs (ns.map Dt.int) → vs = ns.map V.int := by
  induction ns with
  | nil => intro vs h; cases h; rfl
  | cons n ns ih => intro vs h; cases h with | cons a t => cases a; simp [ih t]
theorem TpAll.bls {ns : List Bool} : ∀ {vs : List V}, TpAll K C H vs (ns.map Dt.bl) → vs = ns.map V.bl := by
  induction ns with
  | nil => intro vs h; cases h; rfl
  | cons n ns ih => intro vs h; cases h with | cons a t => cases a; simp [ih t]
theorem TpAll.ofInts (ns : List Int) : TpAll K C H (ns.map V.int) (ns.map Dt.int) := by
  induction ns with
  | nil => exact .nil
  | cons n ns ih => exact .cons (.int n) ih
theorem Tp.tup' {v : V} {ds : List Dt} (h : Tp K C H v (.tup ds)) : ∃ a xs, v = .ref a ∧ SqT K H a xs ∧ TpAll K C H xs ds := by
  cases h with | tup a b => exact ⟨_, _, rfl, a, b⟩
theorem Tp.lst' {v : V} {ds : List Dt} (h : Tp K C H v (.lst ds)) : ∃ a xs, v = .ref a ∧ SqL K H a xs ∧ TpAll K C H xs ds := by
  cases h with | lst a b => exact ⟨_, _, rfl, a, b⟩
theorem Tp.int' {v : V} {i : Int} (h : Tp K C H v (.int i)) : v = .int i := by cases h; rfl
theorem Tp.bl' {v : V} {i : Bool} (h : Tp K C H v (.bl i)) : v = .bl i := by cases h; rfl
theorem Tp.non' {v : V} (h : Tp K C H v .non) : v = .non := by cases h; rfl
end

/-- what evaluates to what data -/
def EvD (K : PySem.W.Frag) (C : Addr) (te : TE) (σ : L2.St) (H : Hp) (d : Dt) : Prop :=
  ∀ H1, Ex H H1 → ∀ Q : VK, (∀ v H2, Ex H1 H2 → Tp K C H2 v d → Q v H2) → te σ H1 Q
def EvDs (K : PySem.W.Frag) (C : Addr) (ta : TA) (σ : L2.St) (H : Hp) (ds : List Dt) : Prop :=
  ∀ H1, Ex H H1 → ∀ Q : List V → Hp → Prop, (∀ vs H2, Ex H1 H2 → TpAll K C H2 vs ds → Q vs H2) → ta σ H1 Q
/-- .. to a new list -/
def EvN (K : PySem.W.Frag) (C : Addr) (te : TE) (σ : L2.St) (H : Hp) (ds : List Dt) : Prop :=
  ∀ H1, Ex H H1 → ∀ Q : VK, (∀ p vs H2, H1 p = none → Ex H1 H2 → H2 p = some (.lst vs) → TpAll K C H2 vs ds → Q (.ref p) H2) → te σ H1 Q
/-- a rule of two values -/
def RD (K : PySem.W.Frag) (C : Addr) (r : R2) (dx dy : Dt) (H : Hp) (d : Dt) : Prop :=
  ∀ x y H1, Ex H H1 → Tp K C H1 x dx → Tp K C H1 y dy → ∀ Q : VK, (∀ v H2, Ex H1 H2 → Tp K C H2 v d → Q v H2) → r x y H1 Q
/-- a rule of arguments -/
def CD (K : PySem.W.Frag) (C : Addr) (r : List V → Hp → VK → Prop) (ds : List Dt) (H : Hp) (d : Dt) : Prop :=
  ∀ vs H1, Ex H H1 → TpAll K C H1 vs ds → ∀ Q : VK, (∀ v H2, Ex H1 H2 → Tp K C H2 v d → Q v H2) → r vs H1 Q

section
variable {K : PySem.W.Frag} {C : Addr} {H H' : Hp} {σ : L2.St} {ta tb tc te : TE} {t : TA} {d dx dy dz : Dt} {ds es : List Dt} {r r' : R2} {i j : Int} {b : Bool}
theorem EvD.mono (e : Ex H H') (h : EvD K C te σ H d) : EvD K C te σ H' d := fun H1 e1 => h H1 (e.trans e1)
theorem EvDs.mono (e : Ex H H') (h : EvDs K C t σ H ds) : EvDs K C t σ H' ds := fun H1 e1 => h H1 (e.trans e1)
theorem EvN.mono (e : Ex H H') (h : EvN K C te σ H ds) : EvN K C te σ H' ds := fun H1 e1 => h H1 (e.trans e1)
theorem RD.mono (e : Ex H H') (h : RD K C r dx dy H d) : RD K C r dx dy H' d := fun x y H1 e1 => h x y H1 (e.trans e1)
theorem EvD.to (h : EvD K C te σ H d) (e : d = dx) : EvD K C te σ H dx := e ▸ h
theorem evd_var {n : Nat} {v : V} (h : σ[n]? = some (some v)) (t : Tp K C H v d) : EvD K C (tVar n) σ H d := fun H1 e Q q => ⟨v, h, q v H1 (Ex.refl H1) (t.ex e)⟩
theorem evd_int : EvD K C (tC (.int i)) σ H (.int i) := fun H1 _ _ q => q _ H1 (Ex.refl H1) (.int i)
theorem evd_bl : EvD K C (tC (.bl b)) σ H (.bl b) := fun H1 _ _ q => q _ H1 (Ex.refl H1) (.bl b)
theorem evd_non : EvD K C (tC .non) σ H .non := fun H1 _ _ q => q _ H1 (Ex.refl H1) .non
theorem evd_con {v : V} (t : Tp K C H v d) : EvD K C (tC v) σ H d := fun H1 e _ q => q _ H1 (Ex.refl H1) (t.ex e)
theorem evd_op (ha : EvD K C ta σ H dx) (hb : EvD K C tb σ H dy) (hr : RD K C r dx dy H d) : EvD K C (tOp r ta tb) σ H d := fun H1 e Q q =>
  ha H1 e _ fun x H2 e2 tx => hb H2 (e.trans e2) _ fun y H3 e3 ty => hr x y H3 ((e.trans e2).trans e3) (tx.ex e3) ty Q fun v H4 e4 tv => q v H4 ((e2.trans e3).trans e4) tv
theorem evd_un {ru : V → Hp → VK → Prop} (ha : EvD K C ta σ H dx) (hr : ∀ x H1, Ex H H1 → Tp K C H1 x dx → ∀ Q : VK, (∀ v H2, Ex H1 H2 → Tp K C H2 v d → Q v H2) → ru x H1 Q) : EvD K C (tUn ru ta) σ H d := fun H1 e Q q =>
  ha H1 e _ fun x H2 e2 tx => hr x H2 (e.trans e2) tx Q fun v H3 e3 tv => q v H3 (e2.trans e3) tv
theorem evd_neg (ha : EvD K C ta σ H (.int i)) : EvD K C (tUn (rU fun i => .int (-i)) ta) σ H (.int (-i)) :=
  evd_un ha fun x H1 _ tx Q q => by cases tx; exact ⟨i, rfl, q _ H1 (Ex.refl H1) (.int _)⟩
theorem rd_I0 {g : Int → Int → V} (hg : ∀ H, Tp K C H (g i j) d) : RD K C (rI0 g) (.int i) (.int j) H d := fun x y H1 e tx ty Q q => by
  cases tx; cases ty; exact ⟨i, j, rfl, rfl, q _ H1 (Ex.refl H1) (hg H1)⟩
theorem rd_I {P : Int → Int → Prop} {g : Int → Int → V} (hP : P i j) (hg : ∀ H, Tp K C H (g i j) d) : RD K C (rI P g) (.int i) (.int j) H d := fun x y H1 e tx ty Q q => by
  cases tx; cases ty; exact ⟨i, j, rfl, rfl, hP, q _ H1 (Ex.refl H1) (hg H1)⟩
theorem evd_add (ha : EvD K C ta σ H (.int i)) (hb : EvD K C tb σ H (.int j)) : EvD K C (tOp (rI0 fun i j => .int (i + j)) ta tb) σ H (.int (i + j)) := evd_op ha hb (rd_I0 fun _ => .int _)
theorem evd_sub (ha : EvD K C ta σ H (.int i)) (hb : EvD K C tb σ H (.int j)) : EvD K C (tOp (rI0 fun i j => .int (i - j)) ta tb) σ H (.int (i - j)) := evd_op ha hb (rd_I0 fun _ => .int _)
theorem evd_mul (ha : EvD K C ta σ H (.int i)) (hb : EvD K C tb σ H (.int j)) (hm : CMul i j) : EvD K C (tOp (rI CMul fun i j => .int (i * j)) ta tb) σ H (.int (i * j)) := evd_op ha hb (rd_I hm fun _ => .int _)
theorem evd_mulW (ha : EvD K C ta σ H (.int i)) (hb : EvD K C tb σ H (.int j)) (hm : CMulW i j) : EvD K C (tOp (rI CMulW fun i j => .int (i * j)) ta tb) σ H (.int (i * j)) := evd_op ha hb (rd_I hm fun _ => .int _)
theorem evd_lt (ha : EvD K C ta σ H (.int i)) (hb : EvD K C tb σ H (.int j)) : EvD K C (tOp (rI0 fun i j => .bl (decide (i < j))) ta tb) σ H (.bl (decide (i < j))) := evd_op ha hb (rd_I0 fun _ => .bl _)
theorem evd_le (ha : EvD K C ta σ H (.int i)) (hb : EvD K C tb σ H (.int j)) : EvD K C (tOp (rI0 fun i j => .bl (decide (i ≤ j))) ta tb) σ H (.bl (decide (i ≤ j))) := evd_op ha hb (rd_I0 fun _ => .bl _)
theorem evd_gt (ha : EvD K C ta σ H (.int i)) (hb : EvD K C tb σ H (.int j)) : EvD K C (tOp (rI0 fun i j => .bl (decide (j < i))) ta tb) σ H (.bl (decide (j < i))) := evd_op ha hb (rd_I0 fun _ => .bl _)
theorem evd_ge (ha : EvD K C ta σ H (.int i)) (hb : EvD K C tb σ H (.int j)) : EvD K C (tOp (rI0 fun i j => .bl (decide (j ≤ i))) ta tb) σ H (.bl (decide (j ≤ i))) := evd_op ha hb (rd_I0 fun _ => .bl _)
theorem evd_eqI (ha : EvD K C ta σ H (.int i)) (hb : EvD K C tb σ H (.int j)) : EvD K C (tOp rEq ta tb) σ H (.bl (decide (i = j))) :=
  evd_op ha hb fun x y H1 e tx ty Q q => by
    cases tx; cases ty
    refine ⟨rfl, q _ H1 (Ex.refl H1) ?_⟩
    have : decide (V.int i = V.int j) = decide (i = j) := by simp
    rw [this]; exact .bl _
theorem evd_neI (ha : EvD K C ta σ H (.int i)) (hb : EvD K C tb σ H (.int j)) : EvD K C (tOp rNe ta tb) σ H (.bl (!decide (i = j))) :=
  evd_op ha hb fun x y H1 e tx ty Q q => by
    cases tx; cases ty
    refine ⟨rfl, q _ H1 (Ex.refl H1) ?_⟩
    have : decide (V.int i = V.int j) = decide (i = j) := by simp
    rw [this]; exact .bl _
theorem evd_eqB {a b : Bool} (ha : EvD K C ta σ H (.bl a)) (hb : EvD K C tb σ H (.bl b)) : EvD K C (tOp rEq ta tb) σ H (.bl (decide (a = b))) :=
  evd_op ha hb fun x y H1 e tx ty Q q => by
    cases tx; cases ty
    refine ⟨rfl, q _ H1 (Ex.refl H1) ?_⟩
    have : decide (V.bl a = V.bl b) = decide (a = b) := by simp
    rw [this]; exact .bl _
theorem evd_neB {a b : Bool} (ha : EvD K C ta σ H (.bl a)) (hb : EvD K C tb σ H (.bl b)) : EvD K C (tOp rNe ta tb) σ H (.bl (!decide (a = b))) :=
  evd_op ha hb fun x y H1 e tx ty Q q => by
    cases tx; cases ty
    refine ⟨rfl, q _ H1 (Ex.refl H1) ?_⟩
    have : decide (V.bl a = V.bl b) = decide (a = b) := by simp
    rw [this]; exact .bl _
/-! ### arguments, displays, items -/
theorem eds_nil : EvDs K C tNil σ H [] := fun H1 _ _ q => q [] H1 (Ex.refl H1) .nil
theorem eds_cons (ha : EvD K C te σ H d) (ht : EvDs K C t σ H ds) : EvDs K C (tCons te t) σ H (d :: ds) := fun H1 e Q q =>
  ha H1 e _ fun x H2 e2 tx => ht H2 (e.trans e2) _ fun xs H3 e3 txs => q (x :: xs) H3 (e2.trans e3) (.cons (tx.ex e3) txs)
theorem eds_star (ha : EvD K C te σ H (.tup es)) (ht : EvDs K C t σ H ds) : EvDs K C (tStar K te t) σ H (es ++ ds) := fun H1 e Q q =>
  ha H1 e _ fun x H2 e2 tx => by
    obtain ⟨a, xs, rfl, hs, al⟩ := tx.tup'
    exact ⟨a, xs, rfl, .inl hs, ht H2 (e.trans e2) _ fun ys H3 e3 tys => q (xs ++ ys) H3 (e2.trans e3) ((al.ex e3).app tys)⟩
theorem eds_starN (ha : EvN K C te σ H es) (ht : EvDs K C t σ H ds) : EvDs K C (tStar K te t) σ H (es ++ ds) := fun H1 e Q q =>
  ha H1 e _ fun p vs H2 _ e2 hp al => ⟨p, vs, rfl, .inr (sq_of hp), ht H2 (e.trans e2) _ fun ys H3 e3 tys => q (vs ++ ys) H3 (e2.trans e3) ((al.ex e3).app tys)⟩
theorem evd_tup (h : EvDs K C t σ H ds) (hl : ds.length ≤ 100000) : EvD K C (tTup t) σ H (.tup ds) := fun H1 e Q q =>
  h H1 e _ fun xs H2 e2 al => ⟨sz_of (by rw [al.length]; exact hl), fun p hp => q _ _ (e2.trans (Ex.new hp)) (.tup (st_of upd_same) (al.ex (Ex.new hp)))⟩
theorem evn_lst (h : EvDs K C t σ H ds) (hl : ds.length ≤ 100000) : EvN K C (tLst t) σ H ds := fun H1 e Q q =>
  h H1 e _ fun xs H2 e2 al => ⟨sz_of (by rw [al.length]; exact hl), fun p hp => q p xs _ (fresh_back e2 hp) (e2.trans (Ex.new hp)) upd_same (al.ex (Ex.new hp))⟩
theorem evd_of_n (h : EvN K C te σ H ds) : EvD K C te σ H (.lst ds) := fun H1 e Q q => h H1 e _ fun p vs H2 _ e2 hp al => q _ H2 e2 (.lst (sq_of hp) al)
theorem at_get {ds : List Dt} {vs : List V} {n : Nat} (al : TpAll K C H vs ds) (h : ds[n]? = some d) : ∃ v, atI vs (n : Int) = some v ∧ Tp K C H v d := by
  obtain ⟨v, e, t⟩ := al.get h
  exact ⟨v, atI_nat e, t⟩
theorem rd_ixT {n : Nat} (h : ds[n]? = some d) : RD K C (rIxT K) (.tup ds) (.int (n : Int)) H d := fun x y H1 e tx ty Q q => by
  obtain ⟨a, xs, rfl, hs, al⟩ := tx.tup'
  cases ty
  obtain ⟨v, ev, tv⟩ := at_get al h
  exact ⟨a, xs, n, v, rfl, rfl, hs, ev, q v H1 (Ex.refl H1) tv⟩
theorem rd_ixL {n : Nat} (h : ds[n]? = some d) : RD K C (rIxL K) (.lst ds) (.int (n : Int)) H d := fun x y H1 e tx ty Q q => by
  obtain ⟨a, xs, rfl, hs, al⟩ := tx.lst'
  cases ty
  obtain ⟨v, ev, tv⟩ := at_get al h
  exact ⟨a, xs, n, v, rfl, rfl, hs, ev, q v H1 (Ex.refl H1) tv⟩
theorem evd_ixT {n : Nat} (ha : EvD K C ta σ H (.tup ds)) (hb : EvD K C tb σ H (.int i)) (hi : i = (n : Int)) (h : ds[n]? = some d) : EvD K C (tOp (rIxT K) ta tb) σ H d := by
  subst hi; exact evd_op ha hb (rd_ixT h)
theorem evd_ixL {n : Nat} (ha : EvD K C ta σ H (.lst ds)) (hb : EvD K C tb σ H (.int i)) (hi : i = (n : Int)) (h : ds[n]? = some d) : EvD K C (tOp (rIxL K) ta tb) σ H d := by
  subst hi; exact evd_op ha hb (rd_ixL h)
/-! ### built-ins by arguments -/
theorem evd_cb {rc : List V → Hp → VK → Prop} (h : EvDs K C t σ H ds) (hr : CD K C rc ds H d) : EvD K C (tCB rc t) σ H d := fun H1 e Q q =>
  h H1 e _ fun vs H2 e2 al => hr vs H2 (e.trans e2) al Q fun v H3 e3 tv => q v H3 (e2.trans e3) tv
/-! ### tests -/
theorem evt_test (h : EvD K C te σ H (.bl b)) : EvT (tTest te) σ H b := fun H1 e _ q => h H1 e _ fun v H2 e2 t => by
  cases t; exact ⟨b, rfl, q H2 e2⟩
theorem evt_B (h : EvD K C te σ H (.bl b)) : EvT (tB te) σ H b := fun H1 e _ q => h H1 e _ fun v H2 e2 t => by
  cases t; exact ⟨b, rfl, q H2 e2⟩
theorem evd_andV {a b : Bool} (h1 : EvD K C ta σ H (.bl a)) (h2 : a = true → EvD K C tb σ H (.bl b)) : EvD K C (tAndV ta tb) σ H (.bl (a && b)) := fun H1 e Q q =>
  h1 H1 e _ fun v H2 e2 t => by
    cases t
    refine ⟨a, rfl, ?_⟩
    cases a with
    | true => exact h2 rfl H2 (e.trans e2) Q fun v H3 e3 t => q v H3 (e2.trans e3) t
    | false => exact q _ H2 e2 (.bl _)
theorem evd_orV {a b : Bool} (h1 : EvD K C ta σ H (.bl a)) (h2 : a = false → EvD K C tb σ H (.bl b)) : EvD K C (tOrV ta tb) σ H (.bl (a || b)) := fun H1 e Q q =>
  h1 H1 e _ fun v H2 e2 t => by
    cases t
    refine ⟨a, rfl, ?_⟩
    cases a with
    | false => exact h2 rfl H2 (e.trans e2) Q fun v H3 e3 t => q v H3 (e2.trans e3) t
    | true => exact q _ H2 e2 (.bl _)
theorem evd_notV {a : Bool} (h1 : EvD K C ta σ H (.bl a)) : EvD K C (tNotV ta) σ H (.bl (!a)) := fun H1 e Q q =>
  h1 H1 e _ fun v H2 e2 t => by
    cases t
    exact ⟨a, rfl, q _ H2 e2 (.bl _)⟩
theorem evd_if {tt : TT} (h : EvT tt σ H b) (h1 : b = true → EvD K C ta σ H d) (h2 : b = false → EvD K C tb σ H d) : EvD K C (tIf tt ta tb) σ H d := fun H1 e Q q => h H1 e _ fun H2 e2 => by
  cases b with
  | true => exact h1 rfl H2 (e.trans e2) Q fun v H3 e3 t => q v H3 (e2.trans e3) t
  | false => exact h2 rfl H2 (e.trans e2) Q fun v H3 e3 t => q v H3 (e2.trans e3) t
/-- a <= b <= c of ints -/
theorem evd_chain {g g' : Int → Int → Bool} {k : Int} (ha : EvD K C ta σ H (.int i)) (hb : EvD K C tb σ H (.int j)) (hc : EvD K C tc σ H (.int k)) :
    EvD K C (tChain (rI0 fun i j => .bl (g i j)) (rI0 fun i j => .bl (g' i j)) ta tb tc) σ H (.bl (g i j && g' j k)) := fun H1 e Q q =>
  ha H1 e _ fun x H2 e2 tx => hb H2 (e.trans e2) _ fun y H3 e3 ty => by
    cases tx; cases ty
    refine ⟨i, j, rfl, rfl, _, rfl, ?_⟩
    cases hg : g i j with
    | false =>
      rw [hg, Bool.false_and] at q
      show Q (.bl false) H3
      refine q _ H3 (e2.trans e3) ?_
      exact .bl _
    | true =>
      rw [hg, Bool.true_and] at q
      exact hc H3 ((e.trans e2).trans e3) _ fun z H4 e4 tz => by
        cases tz
        exact ⟨j, k, rfl, rfl, q _ H4 ((e2.trans e3).trans e4) (.bl _)⟩
end
end UW
namespace UW
open PySem PySem.Spec PyProof.Rows L2
open AutoSeq1 (wpAny_loadPart')

theorem meets_enumerate_newT (l : Addr) (items : Array Value) (n : Nat) (dct : Option Addr) (sl : Array (Option Value)) :
    Meets (Builtin.«enumerate.__new__» ⟨[.type "enumerate", .ref l], []⟩) (fun _ R s => s.heap.get? l = some { cls := .type "tuple", dict := dct, data := .seq items n, slots := sl } ∧
      R (.ok (.ret (.ref (s.heap.push { cls := .type "tuple_iterator", data := .fields #[.ref l, .int 0 0] }).objs.size)))
        { s with heap := (s.heap.push { cls := .type "tuple_iterator", data := .fields #[.ref l, .int 0 0] }).push { cls := .type "enumerate", data := .fields #[.none, .bool false, .ref s.heap.objs.size, rawInt 0, .none, .none] } }) :=
  .of_wp fun prog w A R s h => by
    obtain ⟨hp, g, d, tk, os⟩ := s; obtain ⟨hl, h⟩ := h
    have hsub := sub_enumerate
    have hL : Heap.IsTuple (Shared.heap ⟨hp, g, d, tk, os⟩) l items := ⟨_, hl, rfl, n, rfl⟩
    wp_walk using wpAny_loadPart' hl
    refine wpAny_stack_any fun st => wpAny_pure ?_
    split
    · rename_i c _ _ _ _ _
      cases (c == Value.type "enumerate")
      · wp_walk using wpAny_loadPart' hl, wpAny_pyIter_tuple hL
        exact ⟨_, rfl, h⟩
      · wp_walk using wpAny_loadPart' hl, wpAny_pyIter_tuple hL
        exact ⟨_, rfl, h⟩
    · wp_walk using wpAny_loadPart' hl, wpAny_pyIter_tuple hL
      exact ⟨_, rfl, h⟩

section
variable {prog : Program} {w : World} {A : Around} {E : Value → Shared → Prop} {s : Shared}
theorem call_enumerate_tuple {l : Addr} {items : Array Value} {Q : Value → Shared → Prop} (hL : s.heap.IsTuple l items)
    (h : ∀ h', IsEnum h' (s.heap.objs.size + 1) s.heap.objs.size 0 .none → h'.IsTupleIter s.heap.objs.size l 0 → h'.objs.size = s.heap.objs.size + 2 →
      (∀ b o, s.heap.get? b = some o → h'.get? b = some o) → Q (.ref (s.heap.objs.size + 1)) { s with heap := h' }) :
    wpAny (model prog w) A (call (.type "enumerate") [.ref l]) Q E s := by
  obtain ⟨⟨c, dct, dt, sl⟩, hl, hc, n, hd⟩ := hL
  replace hc : c = .type "tuple" := hc
  replace hd : dt = .seq items n := hd
  subst hc hd
  refine callType_new F.called_enumerate (by decide) (F.typeCall_enumerate_1 _) (F.newCall_enumerate_1 _) (fun obj => F.args_object_init_2 obj _) F.entry_enumerate_new
    (meets_enumerate_newT l items n dct sl) ⟨hl, ?_⟩
  have hz : (s.heap.push { cls := .type "tuple_iterator", data := .fields #[.ref l, .int 0 0] }).objs.size = s.heap.objs.size + 1 := Heap.size_push ..
  show _ ∧ _
  rw [hz]
  have he : IsEnum ((s.heap.push { cls := .type "tuple_iterator", data := .fields #[.ref l, .int 0 0] }).push
      { cls := .type "enumerate", data := .fields #[.none, .bool false, .ref s.heap.objs.size, rawInt 0, .none, .none] }) (s.heap.objs.size + 1) s.heap.objs.size 0 .none := by
    have := Heap.get?_push_size (s.heap.push { cls := .type "tuple_iterator", data := .fields #[.ref l, .int 0 0] })
      (o := { cls := .type "enumerate", data := .fields #[.none, .bool false, .ref s.heap.objs.size, rawInt 0, .none, .none] }) rfl
    rw [hz] at this; exact this
  refine ⟨⟨_, he, rfl⟩, h _ he ⟨_, Heap.get?_push_of_some _ (Heap.get?_push_size _ rfl), rfl, rfl⟩ (by rw [Heap.size_push, hz]) fun b o x => Heap.get?_push_of_some _ (Heap.get?_push_of_some _ x)⟩
end

/-- the tuple at a, each item in a new pair with its place -/
def IteT (K : PySem.W.Frag) (a : Addr) : It :=
  ⟨fun i H => ∃ (xs : List V) (x : V), SqT K H a xs ∧ xs[i]? = some x, fun i H v H' => ∃ T x, v = .ref T ∧ H T = none ∧ H' = upd H T (.tup [.int (i : Nat), x]) ∧ ∀ xs, SqT K H a xs → xs[i]? = some x, fun i H => ∃ xs : List V, SqT K H a xs ∧ xs.length ≤ i⟩
theorem turn_enumT {P : Program} {w : World} {K : PySem.W.Frag} {elts : List Expr} {kk : Nat} {tpos : Pos} (a e it : Addr) (hae : a ≠ e) (hai : a ≠ it) :
    Turn P w K (.Tuple elts kk tpos) (IteT K a) [e, it] e (fun i h => (∃ old, IsEnum h e it ((i : Nat) : Int) old) ∧ h.IsTupleIter it a i ∧ e ≠ it) where
  mem := by simp
  obj := fun i h st b hb => by
    obtain ⟨⟨old, he⟩, ⟨o, ho, hc, hd⟩, _⟩ := st
    have e' : b = e ∨ b = it := by simpa using hb
    rcases e' with z | z
    · rw [z]; exact ⟨_, he, fun v q => nomatch q⟩
    · rw [z]; exact ⟨o, ho, fun v q => by rw [hd] at q; cases q⟩
  keep := fun i h h' st k => let ⟨⟨old, he⟩, hi, hne⟩ := st; ⟨⟨old, k e (by simp) _ he⟩, hi.at fun o q => k it (by simp) o q, hne⟩
  item := by
    intro X hP hw hK hc i pins s σ H E I hf st hg
    subst hP hw hK
    obtain ⟨⟨old, he⟩, hit, hne⟩ := st
    obtain ⟨xs, x, hq, hx⟩ := hg
    obtain ⟨its, rv, p, hz⟩ := I.tuple hq
    obtain ⟨u, hu, ru⟩ := rv.get hx
    have hel : e < s.heap.objs.size := Heap.lt_size he
    have hil : it < s.heap.objs.size := by obtain ⟨_, q, _⟩ := hit; exact Heap.lt_size q
    have hil' : i < its.toArray.size := by
      have := (List.getElem?_eq_some_iff.mp hu).1
      simpa using this
    have D : Draws X.prog X.w X.A.in1 it [it, a] its.toArray.size (fun i v => its.toArray[i]? = some v) (fun i h => h.IsTupleIter it a i ∧ h.IsTuple a its.toArray) :=
      Draws.tuple (A := X.A.in1) (I.ok.hd hc) it a hai its.toArray
    refine wpAny_pyNext_enum_itemC D he ⟨hit, p⟩ hil' hne (by simp [hne, hae.symm]) fun x' h' tk hPx ho hst hT hsz hk => ?_
    have ex : x' = u := by
      have : its.toArray[i]? = some u := by simpa using hu
      rw [this] at hPx
      exact (Option.some.inj hPx).symm
    subst ex
    obtain ⟨hit', hp'⟩ := hst
    refine ⟨_, rfl, wpAny_letOwnedTupleGo_enum (s := { s with heap := h', toks := tk + 1 }) ho fun h'' he' sb => ?_⟩
    have hT2 : h''.get? s.heap.objs.size = some { cls := .type "tuple", data := .seq #[.int i tk, x'] } := (sb.2 _ (Nat.ne_of_gt hel)).trans hT
    have new : ObjOk X.prog X.w (upd H s.heap.objs.size (.tup [.int (i : Nat), x])) h'' s.heap.objs.size (.tup [.int (i : Nat), x]) :=
      ⟨by show 2 ≤ sizeLine; decide, [.int i tk, x'], .cons ⟨_, rfl⟩ (.cons ru .nil), ⟨_, hT2, rfl, _, rfl⟩⟩
    have I1 : Inv X pins σ (upd H s.heap.objs.size (.tup [.int (i : Nat), x])) { s with heap := h'', toks := tk + 1 } :=
      I.turnedNew (ch := [e, it]) (fun b ob hb q => (sb.2 b (fun z => hb (by simp [z]))).trans (hk b ob (fun z => hb (by simp [z])) (fun z => hb (by simp [z])) q)) hf (Nat.le_refl _) new
    refine ⟨.ref s.heap.objs.size, _, I1, rfl, ⟨_, x, rfl, I.hok.fresh (Nat.le_refl _), rfl, fun ys hy => by rw [I.tuple_inj hy hq]; exact hx⟩, ⟨⟨x', ?_⟩, hit'.at fun o q => (sb.2 it (Ne.symm hne)).trans q, hne⟩, fun b hb => ?_⟩
    · have e1 : ((i + 1 : Nat) : Int) = (i : Int) + 1 := by omega
      rw [e1]; exact he'
    · have hb' : b < s.heap.objs.size := by
        have e' : b = e ∨ b = it := by simpa using hb
        rcases e' with z | z
        · rw [z]; exact hel
        · rw [z]; exact hil
      rw [upd_ne (Nat.ne_of_lt hb')]
      exact (hf b hb).1
  done := by
    intro X hP hw hK hc i pins s σ H E I hf st hg
    subst hP hw hK
    obtain ⟨⟨old, he⟩, hit, hne⟩ := st
    obtain ⟨xs, hq, hx⟩ := hg
    obtain ⟨its, rv, p, hz⟩ := I.tuple hq
    obtain ⟨f0, f1, f2, f3, f4, f5⟩ := hf it (by simp)
    have hl := rv.length
    have D : Draws X.prog X.w X.A.in1 it [it, a] i (fun i v => its.toArray[i]? = some v) (fun j h => (h.IsTupleIter it a i ∧ h.IsTuple a its.toArray) ∧ i ≤ j) :=
      { live := fun _ _ st => let ⟨o, ho, _⟩ := st.1.1; ⟨o, ho⟩
        frame := fun _ _ _ st hk => ⟨⟨st.1.1.at fun o e => hk it (by simp) o e, st.1.2.at fun o e => hk a (by simp) o e⟩, st.2⟩
        item := fun j s Q E hj st hQ => absurd hj (Nat.not_lt.mpr st.2)
        done := fun s Q E st hE => wpAny_nextOf_tuple_end (I.ok.hd hc) st.1.1 st.1.2 (Array.getElem?_eq_none (by simp; omega)) hE }
    exact wpAny_pyNext_enum_endD D he ⟨⟨hit, p⟩, Nat.le_refl _⟩ fun h' eb => ⟨rfl, I.turned (t' := s.toks) (fun b o hb q => eb b o hb q) f0 f1 f3 f4 f5⟩
  self := fun A i s Q E st h => let ⟨⟨_, he⟩, _⟩ := st; wpAny_pyIter_enum he h
def iEnumT (K : PySem.W.Frag) (ta : TA) : TI := fun σ H R => ta σ H fun vs H1 => ∃ a xs, vs = [.ref a] ∧ SqT K H1 a xs ∧ R (IteT K a) H1
theorem pi_enumT {X : Cx} {e : Expr} {ta : TA} {p pos tpos : Pos} {elts : List Expr} {kk : Nat} (hg : Gl X "enumerate") (hm : X.mg "enumerate" = none) (ha : PA X [e] ta) (hs : starEach [e] X.env = [(false, eval e X.env)] := by rfl) :
    PI X (.Tuple elts kk tpos) (.Call (.Name "enumerate" p) [e] [] pos) (iEnumT X.K ta) := by
  refine ⟨fun pins s σ H R I h => ?_⟩
  refine Call_ (ld_blt I hg hm boot_enumerate (PyProof.Rows.callWith_type1 (thn (ha.run pos pins s σ H _ I h) fun us s1 ⟨vs, H1, I1, r1, q1⟩ => ?_) hs rfl))
  obtain ⟨a, xs, ex, hq, q⟩ := q1
  subst ex
  cases r1 with
  | cons r rr =>
    cases rr
    cases r
    obtain ⟨its, rv, p', hz⟩ := I1.tuple hq
    have hlt : a < s1.heap.objs.size := p'.lt
    refine call_enumerate_tuple p' fun h' he hit hsz hk => wpAny_pyIter_enum he ?_
    have I2 : Inv X pins σ H1 { s1 with heap := h' } := I1.kept (t' := s1.toks) hk
    refine ⟨s1.heap.objs.size + 1, [s1.heap.objs.size + 1, s1.heap.objs.size], _, _, H1, rfl, I2, turn_enumT a (s1.heap.objs.size + 1) s1.heap.objs.size (Nat.ne_of_lt (Nat.lt_succ_of_lt hlt)) (Nat.ne_of_lt hlt), ⟨⟨.none, he⟩, hit, Nat.succ_ne_self _⟩, fun b hb => ?_, q⟩
    have e' : b = s1.heap.objs.size + 1 ∨ b = s1.heap.objs.size := by simpa using hb
    have hle : s1.heap.objs.size ≤ b := by
      rcases e' with z | z
      · rw [z]; exact Nat.le_add_right _ _
      · rw [z]; exact Nat.le_refl _
    exact I1.fpOk hle (I1.hok.fresh hle)
end UW
namespace UW
open PySem L2 Evl StX SlX ClX RZ

/-! ### what is walked -/
structure DW (K : PySem.W.Frag) (C : Addr) (J : It) (H0 : Hp) (ds : List Dt) : Prop where
  goes : ∀ i H, i < ds.length → Ex H0 H → J.go i H
  stops : ∀ H, Ex H0 H → J.stop ds.length H
  yields : ∀ i H x H', i < ds.length → Ex H0 H → J.yld i H x H' → Ex H H' ∧ ∃ d, ds[i]? = some d ∧ Tp K C H' x d
/-- it is walked, told of the heap as it is known -/
def EvI (K : PySem.W.Frag) (C : Addr) (wi : TI) (σ : L2.St) (H : Hp) (ds : List Dt) : Prop :=
  ∀ H1, Ex H H1 → ∀ Q : It → Hp → Prop, (∀ J H2, Ex H1 H2 → DW K C J H2 ds → Q J H2) → wi σ H1 Q
def EvIb (K : PySem.W.Frag) (C : Addr) (wi : TI) (σ : L2.St) (H : Hp) (ds : List Dt) : Prop :=
  ∀ H1, Ex H H1 → ∀ Q : It → Hp → Prop, (∀ J H2, Ex H1 H2 → DW K C J H ds → Q J H2) → wi σ H1 Q
section
variable {K : PySem.W.Frag} {C : Addr} {H H' : Hp} {σ : L2.St} {ta tb tc te : TE} {t : TA} {d dx dy dz : Dt} {ds es : List Dt} {i j : Int} {b : Bool} {wi : TI} {J : It}
theorem DW.mono (e : Ex H H') (w : DW K C J H ds) : DW K C J H' ds :=
  ⟨fun i H1 hi e1 => w.goes i H1 hi (e.trans e1), fun H1 e1 => w.stops H1 (e.trans e1), fun i H1 x H2 hi e1 y => w.yields i H1 x H2 hi (e.trans e1) y⟩
theorem EvIb.w (h : EvIb K C wi σ H ds) : EvI K C wi σ H ds := fun H1 e Q q => h H1 e Q fun J H2 e2 w => q J H2 e2 (w.mono (e.trans e2))
theorem EvI.mono (e : Ex H H') (h : EvI K C wi σ H ds) : EvI K C wi σ H' ds := fun H1 e1 => h H1 (e.trans e1)
theorem dw_list {a : Addr} {xs : List V} (h : SqL K H a xs) (al : TpAll K C H xs ds) : DW K C (Itl K a) H ds := by
  have hl := al.length
  have w := walk_list (K := K) (a := a) (xs := xs)
  refine ⟨fun i H1 hi e => w.goes i H1 (by omega) (ex_l e h), fun H1 e => by rw [← hl]; exact w.stops H1 (ex_l e h), fun i H1 x H2 hi e y => ?_⟩
  obtain ⟨rfl, hx⟩ := w.yields i H1 x H2 (by omega) (ex_l e h) y
  obtain ⟨d, hd, td⟩ := al.get' hx
  exact ⟨Ex.refl _, d, hd, td.ex e⟩
theorem dw_tup {a : Addr} {xs : List V} (h : SqT K H a xs) (al : TpAll K C H xs ds) : DW K C (Itt K a) H ds := by
  have hl := al.length
  have w := walk_tup (K := K) (a := a) (xs := xs)
  refine ⟨fun i H1 hi e => w.goes i H1 (by omega) (ex_t e h), fun H1 e => by rw [← hl]; exact w.stops H1 (ex_t e h), fun i H1 x H2 hi e y => ?_⟩
  obtain ⟨rfl, hx⟩ := w.yields i H1 x H2 (by omega) (ex_t e h) y
  obtain ⟨d, hd, td⟩ := al.get' hx
  exact ⟨Ex.refl _, d, hd, td.ex e⟩
/-- lo, lo + 1, .. -/
def rngD (lo : Int) (n : Nat) : List Dt := (List.range n).map fun (k : Nat) => Dt.int (lo + (k : Int))
theorem rngD_get {lo : Int} {n k : Nat} (h : k < n) : (rngD lo n)[k]? = some (.int (lo + (k : Int))) := by
  unfold rngD; simp [h]
theorem rngD_len {lo : Int} {n : Nat} : (rngD lo n).length = n := by unfold rngD; simp
theorem dw_rng {lo : Int} {n : Nat} : DW K C (Itr lo n) H (rngD lo n) := by
  have w := walk_range (lo := lo) (n := n)
  refine ⟨fun i H1 hi e => w.goes i H1 (by rw [rngD_len] at hi; exact hi) trivial, fun H1 e => by rw [rngD_len]; exact w.stops H1 trivial, fun i H1 x H2 hi e y => ?_⟩
  rw [rngD_len] at hi
  obtain ⟨rfl, rfl⟩ := w.yields i H1 x H2 hi trivial y
  exact ⟨Ex.refl _, _, rngD_get hi, .int _⟩
/-- pairs with their places -/
def enuD (ds : List Dt) : List Dt := ds.mapIdx fun (k : Nat) d => Dt.tup [.int (k : Int), d]
theorem dw_enuT {a : Addr} {xs : List V} (h : SqT K H a xs) (al : TpAll K C H xs ds) : DW K C (IteT K a) H (enuD ds) := by
  have hl := al.length
  have hl2 : (enuD ds).length = ds.length := by unfold enuD; simp
  refine ⟨fun i H1 hi e => ⟨xs, xs[i]'(by omega), ex_t e h, by simp⟩, fun H1 e => ⟨xs, ex_t e h, by omega⟩, fun i H1 x H2 hi e y => ?_⟩
  obtain ⟨T, x', rfl, hT, rfl, hx⟩ := y
  obtain ⟨d, hd, td⟩ := al.get' (hx xs (ex_t e h))
  have e2 := e.trans (Ex.new (o := .tup [.int (i : Nat), x']) hT)
  refine ⟨Ex.new hT, .tup [.int (i : Int), d], ?_, .tup (st_of upd_same) (.cons (.int _) (.cons (td.ex e2) .nil))⟩
  unfold enuD; rw [List.getElem?_mapIdx, hd]; rfl
theorem dw_enuL {a : Addr} {xs : List V} (h : SqL K H a xs) (al : TpAll K C H xs ds) : DW K C (Ite K a) H (enuD ds) := by
  have hl := al.length
  have hl2 : (enuD ds).length = ds.length := by unfold enuD; simp
  refine ⟨fun i H1 hi e => ⟨xs, xs[i]'(by omega), ex_l e h, by simp⟩, fun H1 e => ⟨xs, ex_l e h, by omega⟩, fun i H1 x H2 hi e y => ?_⟩
  obtain ⟨T, x', rfl, hT, rfl, hx⟩ := y
  obtain ⟨d, hd, td⟩ := al.get' (hx xs (ex_l e h))
  have e2 := e.trans (Ex.new (o := .tup [.int (i : Nat), x']) hT)
  refine ⟨Ex.new hT, .tup [.int (i : Int), d], ?_, .tup (st_of upd_same) (.cons (.int _) (.cons (td.ex e2) .nil))⟩
  unfold enuD; rw [List.getElem?_mapIdx, hd]; rfl
def zipD (ds es : List Dt) : List Dt := List.zipWith (fun d e => Dt.tup [d, e]) ds es
theorem dw_zipT {a c : Addr} {xs ys : List V} (h : SqT K H a xs) (al : TpAll K C H xs ds) (h' : SqT K H c ys) (al' : TpAll K C H ys es) : DW K C (ItzT K a c) H (zipD ds es) := by
  have hl := al.length
  have hl' := al'.length
  have hz : (zipD ds es).length = min ds.length es.length := by unfold zipD; simp
  refine ⟨fun i H1 hi e => ⟨xs, ys, xs[i]'(by omega), ys[i]'(by omega), ex_t e h, ex_t e h', by simp, by simp⟩, fun H1 e => ⟨xs, ys, ex_t e h, ex_t e h', by omega⟩, fun i H1 x H2 hi e y => ?_⟩
  obtain ⟨T, x', y', rfl, hT, rfl, hx, hy⟩ := y
  obtain ⟨d, hd, td⟩ := al.get' (hx xs (ex_t e h))
  obtain ⟨d', hd', td'⟩ := al'.get' (hy ys (ex_t e h'))
  have e2 := e.trans (Ex.new (o := .tup [x', y']) hT)
  refine ⟨Ex.new hT, .tup [d, d'], ?_, .tup (st_of upd_same) (.cons (td.ex e2) (.cons (td'.ex e2) .nil))⟩
  unfold zipD; simp [List.getElem?_zipWith, hd, hd']
/-! sources -/
theorem evi_tup (h : EvD K C te σ H (.tup ds)) : EvI K C (iTup K te) σ H ds := fun H1 e Q q => h H1 e _ fun v H2 e2 t => by
  obtain ⟨a, xs, rfl, hs, al⟩ := t.tup'
  exact ⟨a, rfl, ⟨xs, hs⟩, q _ H2 e2 (dw_tup hs al)⟩
theorem evi_lst (h : EvD K C te σ H (.lst ds)) : EvI K C (iList K te) σ H ds := fun H1 e Q q => h H1 e _ fun v H2 e2 t => by
  obtain ⟨a, xs, rfl, hs, al⟩ := t.lst'
  exact ⟨a, rfl, ⟨xs, hs⟩, q _ H2 e2 (dw_list hs al)⟩
theorem evib_tup {n : Nat} {v : V} (h : σ[n]? = some (some v)) (t : Tp K C H v (.tup ds)) : EvIb K C (iTup K (tVar n)) σ H ds := fun H1 e Q q => by
  obtain ⟨a, xs, rfl, hs, al⟩ := t.tup'
  exact ⟨_, h, a, rfl, ⟨xs, ex_t e hs⟩, q _ H1 (Ex.refl _) (dw_tup hs al)⟩
theorem evi_rng1 {n : Nat} (h : EvDs K C t σ H [.int (n : Int)]) (hn : n < 2 ^ 62) : EvIb K C (iRng1 t) σ H (rngD 0 n) := fun H1 e Q q => h H1 e _ fun vs H2 e2 al => by
  cases al with
  | cons a al =>
    cases a; cases al
    refine ⟨n, rfl, by omega, by omega, ?_⟩
    rw [Int.toNat_natCast]
    exact q _ H2 e2 dw_rng
theorem evi_rng2 {lo hi : Int} (h : EvDs K C t σ H [.int lo, .int hi]) (h1 : -(2 ^ 62) ≤ lo ∧ lo < 2 ^ 62 ∧ -(2 ^ 62) ≤ hi ∧ hi < 2 ^ 62) : EvIb K C (iRng2 t) σ H (rngD lo (hi - lo).toNat) := fun H1 e Q q => h H1 e _ fun vs H2 e2 al => by
  cases al with
  | cons a al =>
    cases al with
    | cons a2 al =>
      cases a; cases a2; cases al
      exact ⟨lo, hi, rfl, h1, q _ H2 e2 dw_rng⟩
theorem evi_enuT (h : EvDs K C t σ H [.tup ds]) : EvI K C (iEnumT K t) σ H (enuD ds) := fun H1 e Q q => h H1 e _ fun vs H2 e2 al => by
  cases al with
  | cons a al =>
    cases al
    obtain ⟨p, xs, rfl, hs, al⟩ := a.tup'
    exact ⟨p, xs, rfl, hs, q _ H2 e2 (dw_enuT hs al)⟩
theorem evi_enuL (h : EvDs K C t σ H [.lst ds]) : EvI K C (iEnum K t) σ H (enuD ds) := fun H1 e Q q => h H1 e _ fun vs H2 e2 al => by
  cases al with
  | cons a al =>
    cases al
    obtain ⟨p, xs, rfl, hs, al⟩ := a.lst'
    exact ⟨p, xs, rfl, hs, q _ H2 e2 (dw_enuL hs al)⟩
theorem evib_enuT {n : Nat} {v : V} (h : σ[n]? = some (some v)) (t : Tp K C H v (.tup ds)) : EvIb K C (iEnumT K (tCons (tVar n) tNil)) σ H (enuD ds) := fun H1 e Q q => by
  obtain ⟨p, xs, rfl, hs, al⟩ := t.tup'
  exact ⟨_, h, p, xs, rfl, ex_t e hs, q _ H1 (Ex.refl _) (dw_enuT hs al)⟩
theorem evi_zipT (h : EvDs K C t σ H [.tup ds, .tup es]) : EvI K C (iZipA K t) σ H (zipD ds es) := fun H1 e Q q => h H1 e _ fun vs H2 e2 al => by
  cases al with
  | cons a al =>
    cases al with
    | cons a2 al =>
      cases al
      obtain ⟨p, xs, rfl, hs, al⟩ := a.tup'
      obtain ⟨p', ys, rfl, hs', al'⟩ := a2.tup'
      exact ⟨p, p', xs, ys, rfl, .inr ⟨hs, hs', q _ H2 e2 (dw_zipT hs al hs' al')⟩⟩
/-! ### a comprehension -/
theorem evn_lc {g : TG} {vs : List Nat} (hi : EvI K C wi σ H ds) (hl : ds.length = es.length) (hz : ds.length < 100000) (hn : noLs es = true)
    (hs : ∀ (k : Nat) (d e : Dt) (x : V) (H1 : Hp), ds[k]? = some d → es[k]? = some e → Ex H H1 → Tp K C H1 x d →
      ∃ σ2, (∀ Q : L2.St → Hp → Prop, Q σ2 H1 → g x (wipe σ vs) H1 Q) ∧ wipe σ2 vs = wipe σ vs ∧ EvD K C te σ2 H1 e) :
    EvN K C (tLc wi g tYes te vs) σ H es := by
  intro H1 e1 Q q
  refine hi H1 e1 _ fun J H2 e2 w D hD => ?_
  have hes : ∀ k e, es[k]? = some e → noL e = true := fun k e h => noLs_iff.mp hn e (List.mem_of_getElem? h)
  have W : Walk J ds.length (fun H => Ex H2 H) (fun k H x H' => Ex H H' ∧ ∃ d, ds[k]? = some d ∧ Tp K C H' x d) :=
    ⟨fun k H' hk e => w.goes k H' hk e, fun H' e => w.stops H' e, fun k H' x H'' hk e y => w.yields k H' x H'' hk e y⟩
  refine lc_it W (fun k H' => Ex H2 H' ∧ ∃ vs, H' D = some (.lst vs) ∧ TpAll K C H' vs (es.take k)) ⟨Ex.new hD, [], upd_same, by simpa using .nil⟩ (fun k H' _ h => h.1) ?_ ?_
  · rintro k x H' H'' hk ⟨e3, acc, ha, al⟩ ⟨e4, d, hd, td⟩
    obtain ⟨e, he⟩ : ∃ e, es[k]? = some e := ⟨es[k]'(by omega), List.getElem?_eq_getElem _⟩
    obtain ⟨σ2, hg, hw, ev⟩ := hs k d e x H'' hd he (((e1.trans e2).trans e3).trans e4) td
    refine hg _ ⟨hw, ?_⟩
    unfold tYes
    dsimp only
    rw [if_pos rfl]
    refine ev H'' (Ex.refl _) _ fun v H4 e5 tv => ?_
    have hacc : H4 D = some (.lst acc) := e5.all _ _ (e4.all _ _ ha fun ps z => by cases z) fun ps z => by cases z
    refine ⟨acc, hacc, sz_lt (by rw [al.length, List.length_take]; omega), ?_, _, upd_same, ?_⟩
    · exact ((e3.trans e4).trans e5).mut hD
    · have ht : es.take (k + 1) = es.take k ++ [e] := by
        rw [List.take_add_one, he]; rfl
      rw [ht]
      have nl : noLs (es.take k) = true := noLs_iff.mpr fun d hd => noLs_iff.mp hn d (List.mem_of_mem_take hd)
      exact ((al.ex (e4.trans e5)).upd ⟨_, hacc⟩ nl).app (.cons (tv.upd ⟨_, hacc⟩ (hes k e he)) .nil)
  · rintro H' ⟨e3, vs', hv, al⟩
    rw [hl, List.take_length] at al
    exact q D vs' H' (fresh_back e2 hD) (e2.trans e3) hv al
/-! ### built-ins over a new list -/
theorem evd_tupleN {ta : TE} {r : List V → Hp → VK → Prop} (hr : r = fun xs H Q => ∃ p ys, xs = [.ref p] ∧ ((SqL K H p ys ∧ ∀ l, H l = none → Q (.ref l) (upd H l (.tup ys))) ∨ (SqT K H p ys ∧ Q (.ref p) H))) (h : EvN K C ta σ H ds) : EvD K C (tCB r (tCons ta tNil)) σ H (.tup ds) := by
  subst hr
  exact fun H1 e Q q => h H1 e _ fun p vs H2 hp e2 hv al => ⟨p, vs, rfl, .inl ⟨sq_of hv, fun l hl => q _ _ (e2.trans (Ex.new hl)) (.tup (st_of upd_same) (al.ex (Ex.new hl)))⟩⟩
theorem evd_tuple (h : EvN K C ta σ H ds) : EvD K C (tCB (fun xs H Q => ∃ p ys, xs = [.ref p] ∧ ((SqL K H p ys ∧ ∀ l, H l = none → Q (.ref l) (upd H l (.tup ys))) ∨ (SqT K H p ys ∧ Q (.ref p) H))) (tCons ta tNil)) σ H (.tup ds) := evd_tupleN rfl h
theorem evd_tupleL (h : EvD K C ta σ H (.lst ds)) : EvD K C (tCB (fun xs H Q => ∃ p ys, xs = [.ref p] ∧ ((SqL K H p ys ∧ ∀ l, H l = none → Q (.ref l) (upd H l (.tup ys))) ∨ (SqT K H p ys ∧ Q (.ref p) H))) (tCons ta tNil)) σ H (.tup ds) :=
  fun H1 e Q q => h H1 e _ fun v H2 e2 t => by
    obtain ⟨p, vs, rfl, hv, al⟩ := t.lst'
    exact ⟨p, vs, rfl, .inl ⟨hv, fun l hl => q _ _ (e2.trans (Ex.new hl)) (.tup (st_of upd_same) (al.ex (Ex.new hl)))⟩⟩
theorem evd_sum {ns : List Int} (h : EvN K C ta σ H (ns.map Dt.int)) : EvD K C (tCB (rSum K) (tCons ta tNil)) σ H (.int ns.sum) := fun H1 e Q q => h H1 e _ fun p vs H2 hp e2 hv al => by
  have := al.ints
  subst this
  exact ⟨p, ns, rfl, sq_of hv, q _ H2 e2 (.int _)⟩
theorem evd_any {bs : List Bool} (h : EvN K C ta σ H (bs.map Dt.bl)) : EvD K C (tCB (rAny K) (tCons ta tNil)) σ H (.bl (bs.any id)) := fun H1 e Q q => h H1 e _ fun p vs H2 hp e2 hv al => by
  have := al.bls
  subst this
  exact ⟨p, bs, rfl, sq_of hv, q _ H2 e2 (.bl _)⟩
theorem evd_all {bs : List Bool} (h : EvN K C ta σ H (bs.map Dt.bl)) : EvD K C (tCB (rAll K) (tCons ta tNil)) σ H (.bl (bs.all id)) := fun H1 e Q q => h H1 e _ fun p vs H2 hp e2 hv al => by
  have := al.bls
  subst this
  exact ⟨p, bs, rfl, sq_of hv, q _ H2 e2 (.bl _)⟩
theorem evd_int1b (h : EvD K C ta σ H (.bl b)) : EvD K C (tCB (fun xs H Q => (∃ i, xs = [.int i] ∧ Q (.int i) H) ∨ ∃ k, xs = [.bl k] ∧ Q (.int (if k then 1 else 0)) H) (tCons ta tNil)) σ H (.int (if b then 1 else 0)) :=
  fun H1 e Q q => h H1 e _ fun v H2 e2 t => by cases t; exact .inr ⟨b, rfl, q _ H2 e2 (.int _)⟩
theorem evd_int1i (h : EvD K C ta σ H (.int i)) : EvD K C (tCB (fun xs H Q => (∃ i, xs = [.int i] ∧ Q (.int i) H) ∨ ∃ k, xs = [.bl k] ∧ Q (.int (if k then 1 else 0)) H) (tCons ta tNil)) σ H (.int i) :=
  fun H1 e Q q => h H1 e _ fun v H2 e2 t => by cases t; exact .inl ⟨i, rfl, q _ H2 e2 (.int _)⟩
theorem evd_abs (h : EvD K C ta σ H (.int i)) : EvD K C (tCB (fun xs H Q => ∃ i, xs = [.int i] ∧ Q (.int (if i < 0 then -i else i)) H) (tCons ta tNil)) σ H (.int (if i < 0 then -i else i)) :=
  fun H1 e Q q => h H1 e _ fun v H2 e2 t => by cases t; exact ⟨i, rfl, q _ H2 e2 (.int _)⟩
theorem evd_lenT (h : EvD K C ta σ H (.tup ds)) : EvD K C (tCB (fun xs H Q => ∃ p ys, xs = [.ref p] ∧ (SqL K H p ys ∨ SqT K H p ys) ∧ Q (.int ys.length) H) (tCons ta tNil)) σ H (.int (ds.length : Int)) :=
  fun H1 e Q q => h H1 e _ fun v H2 e2 t => by
    obtain ⟨a, xs, rfl, hs, al⟩ := t.tup'
    exact ⟨a, xs, rfl, .inr hs, q _ H2 e2 (by rw [al.length]; exact .int _)⟩
theorem evd_lenL (h : EvD K C ta σ H (.lst ds)) : EvD K C (tCB (fun xs H Q => ∃ p ys, xs = [.ref p] ∧ (SqL K H p ys ∨ SqT K H p ys) ∧ Q (.int ys.length) H) (tCons ta tNil)) σ H (.int (ds.length : Int)) :=
  fun H1 e Q q => h H1 e _ fun v H2 e2 t => by
    obtain ⟨a, xs, rfl, hs, al⟩ := t.lst'
    exact ⟨a, xs, rfl, .inl hs, q _ H2 e2 (by rw [al.length]; exact .int _)⟩
/-! ### tuples -/
theorem evd_cat (ha : EvD K C ta σ H (.tup ds)) (hb : EvD K C tb σ H (.tup es)) (hl : ds.length + es.length ≤ 100000) : EvD K C (tOp (rCatA K) ta tb) σ H (.tup (ds ++ es)) :=
  evd_op ha hb fun x y H1 e tx ty Q q => by
    obtain ⟨a, xs, rfl, hs, al⟩ := tx.tup'
    obtain ⟨c, ys, rfl, hs', al'⟩ := ty.tup'
    have l1 := al.length
    have l2 := al'.length
    refine ⟨a, c, xs, ys, rfl, rfl, hs, hs', sz_of (by omega), fun h => ?_, fun _ h => ?_, fun _ _ p hp => ?_⟩
    · subst h; cases al; exact q _ H1 (Ex.refl _) ty
    · subst h; cases al'; rw [List.append_nil] at q; exact q _ H1 (Ex.refl _) tx
    · exact q _ _ (Ex.new hp) (.tup (st_of upd_same) ((al.ex (Ex.new hp)).app (al'.ex (Ex.new hp))))
/-- parts of a slice -/
def EvP (to : TO) (σ : L2.St) (H : Hp) (o : Option Int) : Prop := EvO to σ H o
theorem evp_none : EvO tNoPart σ H none := eo_none
theorem evp_some (h : EvD K C te σ H (.int i)) : EvO (tPart te) σ H (some i) := fun H1 e _ q => h H1 e _ fun v H2 e2 t => by cases t; exact ⟨i, rfl, q H2 e2⟩
/-- a slice -/
def cutD (ds : List Dt) (lo hi : Option Int) : List Dt := (ds.drop (HT.sIx ds.length 0 lo)).take (HT.sIx ds.length ds.length hi - HT.sIx ds.length 0 lo)
theorem tp_cut {xs : List V} {lo hi : Option Int} (al : TpAll K C H xs ds) : TpAll K C H (cutV xs lo hi) (cutD ds lo hi) := by
  unfold cutV cutD
  rw [al.length]
  exact (al.drop _).take _
theorem cutV_whole {xs : List V} {lo hi : Option Int} (h : HT.sIx xs.length 0 lo = 0 ∧ HT.sIx xs.length xs.length hi = xs.length) : cutV xs lo hi = xs := by
  unfold cutV
  rw [h.1, h.2]
  simp
theorem evd_sl {tl th : TO} {lo hi : Option Int} (ha : EvD K C te σ H (.tup ds)) (h1 : EvO tl σ H lo) (h2 : EvO th σ H hi) : EvD K C (tSl (rSlA K) te tl th) σ H (.tup (cutD ds lo hi)) := fun H1 e Q q =>
  ha H1 e _ fun v H2 e2 t => h1 H2 (e.trans e2) _ fun H3 e3 => h2 H3 ((e.trans e2).trans e3) _ fun H4 e4 => by
    have e24 := e3.trans e4
    obtain ⟨a, xs, rfl, hs, al⟩ := (t.ex e24).tup'
    have tc := tp_cut (lo := lo) (hi := hi) al
    refine ⟨a, xs, rfl, hs, fun hw => ?_, fun _ p hp => q _ _ ((e2.trans e24).trans (Ex.new hp)) (.tup (st_of upd_same) (tc.ex (Ex.new hp)))⟩
    rw [cutV_whole hw] at tc
    exact q _ H4 (e2.trans e24) (.tup hs tc)
theorem cutD_take {n : Nat} : cutD ds none (some (n : Int)) = ds.take n := by
  unfold cutD
  rw [HT.sIx_none, HT.sIx_nat]
  simp [List.take_eq_take_iff]
theorem cutD_drop {n : Nat} : cutD ds (some (n : Int)) none = ds.drop n := by
  unfold cutD
  rw [HT.sIx_none, HT.sIx_nat]
  by_cases h : n ≤ ds.length
  · rw [Nat.min_eq_left h]
    rw [List.take_of_length_le (by simp)]
  · rw [Nat.min_eq_right (by omega), List.drop_of_length_le (Nat.le_refl _), List.drop_of_length_le (by omega)]
    simp
theorem cutD_mid {n m : Nat} : cutD ds (some (n : Int)) (some (m : Int)) = (ds.take m).drop n := by
  unfold cutD
  rw [HT.sIx_nat, HT.sIx_nat, List.drop_take]
  apply List.ext_getElem?
  intro k
  simp only [List.getElem?_take, List.getElem?_drop]
  by_cases h : n ≤ ds.length
  · rw [Nat.min_eq_left h]
    by_cases h2 : m ≤ ds.length
    · rw [Nat.min_eq_left h2]
    · rw [Nat.min_eq_right (by omega)]
      by_cases h3 : k < ds.length - n
      · rw [if_pos h3, if_pos (by omega)]
      · rw [if_neg h3]
        split
        · rw [List.getElem?_eq_none (by omega)]
        · rfl
  · rw [Nat.min_eq_right (by omega : ds.length ≤ n)]
    rw [if_neg (by omega)]
    split
    · rw [List.getElem?_eq_none (by omega)]
    · rfl
end
end UW
namespace UW
open PySem L2 Evl StX SlX ClX RZ

/-! ### equality of data -/
mutual
def toPy : Dt → PyData
  | .non => .none
  | .bl b => .bool b
  | .int i => .int i
  | .tup ds => .tuple (toPys ds)
  | .lst ds => .list (toPys ds)
  | .sys _ => .none
def toPys : List Dt → List PyData
  | [] => []
  | d :: ds => toPy d :: toPys ds
end
/-- ints and tuples of such, k deep -/
def flatD : Nat → Dt → Bool
  | _, .int _ => true
  | k + 1, .tup ds => ds.all (flatD k)
  | k + 1, .lst ds => ds.all (flatD k)
  | _, _ => false
section
variable {K : PySem.W.Frag} {C : Addr} {H H' : Hp}
theorem flat_dp : ∀ (k : Nat) {d : Dt} {v : V}, flatD k d = true → Tp K C H v d → Dp K H v (toPy d) := by
  intro k
  induction k with
  | zero =>
    intro d v hf t
    cases t with
    | int i => exact .int i
    | non => simp [flatD] at hf
    | bl b => simp [flatD] at hf
    | tup a b => simp [flatD] at hf
    | lst a b => simp [flatD] at hf
    | sys a b c => simp [flatD] at hf
  | succ k ih =>
    have all : ∀ {ds : List Dt} {vs : List V}, ds.all (flatD k) = true → TpAll K C H vs ds → DpAll K H vs (toPys ds) := by
      intro ds
      induction ds with
      | nil => intro vs _ al; cases al; exact .nil
      | cons d ds ihd =>
        intro vs hf al
        cases al with
        | cons t al =>
          simp only [List.all_cons, Bool.and_eq_true] at hf
          exact .cons (ih hf.1 t) (ihd hf.2 al)
    intro d v hf t
    cases t with
    | int i => exact .int i
    | non => simp [flatD] at hf
    | bl b => simp [flatD] at hf
    | tup a b =>
      simp only [flatD] at hf
      unfold toPy
      exact .tup a (all hf b)
    | lst a b =>
      simp only [flatD] at hf
      unfold toPy
      exact .lst a (all hf b)
    | sys a b c => simp [flatD] at hf
theorem flat_shaped : ∀ (k : Nat) {d : Dt}, flatD k d = true → (toPy d).canLay0 = true ∧ (toPy d).depth ≤ k := by
  intro k
  induction k with
  | zero =>
    intro d hf
    cases d with
    | int i => unfold toPy; exact ⟨rfl, by simp [PyData.depth]⟩
    | _ => simp [flatD] at hf
  | succ k ih =>
    have all : ∀ {ds : List Dt}, ds.all (flatD k) = true → PyData.canLayAll0 (toPys ds) = true ∧ PyData.depthAll (toPys ds) ≤ k := by
      intro ds
      induction ds with
      | nil => intro _; exact ⟨rfl, Nat.zero_le _⟩
      | cons d ds ihd =>
        intro hf
        simp only [List.all_cons, Bool.and_eq_true] at hf
        obtain ⟨a, b⟩ := ih hf.1
        obtain ⟨a', b'⟩ := ihd hf.2
        unfold toPys
        refine ⟨by simp [PyData.canLayAll0, a, a'], ?_⟩
        simp only [PyData.depthAll]
        omega
    intro d hf
    cases d with
    | int i => unfold toPy; exact ⟨rfl, by simp [PyData.depth]⟩
    | tup ds =>
      simp only [flatD] at hf
      obtain ⟨a, b⟩ := all hf
      unfold toPy
      exact ⟨by simpa [PyData.canLay0] using a, by simp only [PyData.depth]; omega⟩
    | lst ds =>
      simp only [flatD] at hf
      obtain ⟨a, b⟩ := all hf
      unfold toPy
      exact ⟨by simpa [PyData.canLay0] using a, by simp only [PyData.depth]; omega⟩
    | _ => simp [flatD] at hf
theorem flat_eqv : ∀ (k : Nat) {d e : Dt}, flatD k d = true → flatD k e = true → (PyData.eqv (toPy d) (toPy e) = true ↔ d = e) := by
  intro k
  induction k with
  | zero =>
    intro d e hf hg
    cases d with
    | int i =>
      cases e with
      | int j => unfold toPy; simp [PyData.eqv]
      | _ => simp [flatD] at hg
    | _ => simp [flatD] at hf
  | succ k ih =>
    have all : ∀ {ds es : List Dt}, ds.all (flatD k) = true → es.all (flatD k) = true → (PyData.eqvAll (toPys ds) (toPys es) = true ↔ ds = es) := by
      intro ds
      induction ds with
      | nil =>
        intro es _ _
        cases es <;> simp [toPys, PyData.eqvAll]
      | cons d ds ihd =>
        intro es hf hg
        cases es with
        | nil => simp [toPys, PyData.eqvAll]
        | cons e es =>
          simp only [List.all_cons, Bool.and_eq_true] at hf hg
          simp only [toPys, PyData.eqvAll, Bool.and_eq_true, List.cons.injEq]
          rw [ih hf.1 hg.1, ihd hf.2 hg.2]
    intro d e hf hg
    cases d with
    | int i =>
      cases e with
      | int j => unfold toPy; simp [PyData.eqv]
      | tup es => unfold toPy; simp [PyData.eqv]
      | lst es => unfold toPy; simp [PyData.eqv]
      | _ => simp [flatD] at hg
    | tup ds =>
      simp only [flatD] at hf
      cases e with
      | int j => unfold toPy; simp [PyData.eqv]
      | tup es =>
        simp only [flatD] at hg
        unfold toPy
        simp only [PyData.eqv, Dt.tup.injEq]
        exact all hf hg
      | lst es => unfold toPy; simp [PyData.eqv]
      | _ => simp [flatD] at hg
    | lst ds =>
      simp only [flatD] at hf
      cases e with
      | int j => unfold toPy; simp [PyData.eqv]
      | lst es =>
        simp only [flatD] at hg
        unfold toPy
        simp only [PyData.eqv, Dt.lst.injEq]
        exact all hf hg
      | tup es => unfold toPy; simp [PyData.eqv]
      | _ => simp [flatD] at hg
    | _ => simp [flatD] at hf
end
section
variable {K : PySem.W.Frag} {C : Addr} {H H' : Hp} {σ : L2.St} {ta tb tc te : TE} {t : TA} {d dx dy dz : Dt} {ds es : List Dt} {i j : Int} {b : Bool}
theorem evd_eqD {c : Bool} (ha : EvD K C ta σ H d) (hb : EvD K C tb σ H dx) (k : Nat) (hk : k ≤ 64) (fd : flatD k d = true) (fx : flatD k dx = true) (hc : c = true ↔ d = dx) : EvD K C (tOp (rEqD K) ta tb) σ H (.bl c) :=
  evd_op ha hb fun x y H1 e tx ty Q q => by
    obtain ⟨a1, b1⟩ := flat_shaped k fd
    obtain ⟨a2, b2⟩ := flat_shaped k fx
    refine ⟨_, _, flat_dp k fd tx, flat_dp k fx ty, by unfold SeqAt.shaped; rw [a1]; simp; omega, by unfold SeqAt.shaped; rw [a2]; simp; omega, q _ H1 (Ex.refl _) ?_⟩
    have : PyData.eqv (toPy d) (toPy dx) = c := by
      rw [Bool.eq_iff_iff, flat_eqv k fd fx, hc]
    rw [this]; exact .bl _
theorem evd_neD {c : Bool} (ha : EvD K C ta σ H d) (hb : EvD K C tb σ H dx) (k : Nat) (hk : k ≤ 64) (fd : flatD k d = true) (fx : flatD k dx = true) (hc : c = true ↔ d = dx) : EvD K C (tOp (rNeD K) ta tb) σ H (.bl (!c)) :=
  evd_op ha hb fun x y H1 e tx ty Q q => by
    obtain ⟨a1, b1⟩ := flat_shaped k fd
    obtain ⟨a2, b2⟩ := flat_shaped k fx
    refine ⟨_, _, flat_dp k fd tx, flat_dp k fx ty, by unfold SeqAt.shaped; rw [a1]; simp; omega, by unfold SeqAt.shaped; rw [a2]; simp; omega, q _ H1 (Ex.refl _) ?_⟩
    have : PyData.eqv (toPy d) (toPy dx) = c := by
      rw [Bool.eq_iff_iff, flat_eqv k fd fx, hc]
    rw [this]; exact .bl _
/-! ### promises of defs that leave what is known -/
def spP (K : PySem.W.Frag) (C : Addr) (R : List Dt → Dt → Prop) : Sp := fun vs H Q _ => ∃ ds d, TpAll K C H vs ds ∧ R ds d ∧ ∀ v H', Ex H H' → Tp K C H' v d → Q v H'
theorem spP_len {R : List Dt → Dt → Prop} {n : Nat} (h : ∀ ds d, R ds d → ds.length = n) : ∀ vs H Q E, spP K C R vs H Q E → vs.length = n := fun vs H Q E ⟨ds, d, al, r, _⟩ => by
  rw [al.length, h ds d r]
theorem evd_call {R : List Dt → Dt → Prop} {E : XK} (h : EvDs K C t σ H ds) (r : R ds d) : EvD K C (tCall (spP K C R) [] E t) σ H d := fun H1 e Q q =>
  h H1 e _ fun vs H2 e2 al => ⟨ds, d, by rw [List.append_nil]; exact al, r, fun v H3 e3 tv => q v H3 (e2.trans e3) tv⟩
/-- a new list -/
def spN (K : PySem.W.Frag) (C : Addr) (R : List Dt → List Dt → Prop) : Sp := fun vs H Q _ => ∃ ds es, TpAll K C H vs ds ∧ R ds es ∧ ∀ p xs H', H p = none → Ex H H' → H' p = some (.lst xs) → TpAll K C H' xs es → Q (.ref p) H'
theorem spN_len {R : List Dt → List Dt → Prop} {n : Nat} (h : ∀ ds d, R ds d → ds.length = n) : ∀ vs H Q E, spN K C R vs H Q E → vs.length = n := fun vs H Q E ⟨ds, d, al, r, _⟩ => by
  rw [al.length, h ds d r]
theorem evn_call {R : List Dt → List Dt → Prop} {E : XK} (h : EvDs K C t σ H ds) (r : R ds es) : EvN K C (tCall (spN K C R) [] E t) σ H es := fun H1 e Q q =>
  h H1 e _ fun vs H2 e2 al => ⟨ds, es, by rw [List.append_nil]; exact al, r, fun p xs H3 hp e3 hx ax => q p xs H3 (fresh_back e2 hp) (e2.trans e3) hx ax⟩
/-! ### the attributes of a system -/
structure TS0 (K : PySem.W.Frag) (C : Addr) : Prop where
  cls : SCls K C
  l : ∃ p, Slot1 K C "own_letters" p 3
  f : ∃ p, Slot1 K C "own_factors" p 1
  g : ∃ p, Slot1 K C "own_golden" p 2
  b : ∃ p, Slot1 K C "own_bonds" p 0
theorem evd_letters {S : Sy} (T : TS0 K C) (h : EvD K C te σ H (.sys S)) : EvD K C (tSl K te "own_letters") σ H (.int S.n) := fun H1 e Q q => h H1 e _ fun v H2 e2 t => by
  obtain ⟨p, hp⟩ := T.l
  cases t with
  | sys h1 h2 f => exact ⟨_, C, _, p, _, 3, _, rfl, .inr ⟨h1, h2⟩, T.cls, hp, rfl, q _ H2 e2 (.int _)⟩
theorem evd_golden {S : Sy} (T : TS0 K C) (h : EvD K C te σ H (.sys S)) : EvD K C (tSl K te "own_golden") σ H (.bl S.golden) := fun H1 e Q q => h H1 e _ fun v H2 e2 t => by
  obtain ⟨p, hp⟩ := T.g
  cases t with
  | sys h1 h2 f => exact ⟨_, C, _, p, _, 2, _, rfl, .inr ⟨h1, h2⟩, T.cls, hp, rfl, q _ H2 e2 (.bl _)⟩
theorem evd_factors {S : Sy} (T : TS0 K C) (h : EvD K C te σ H (.sys S)) : EvD K C (tSl K te "own_factors") σ H (facD S.F) := fun H1 e Q q => h H1 e _ fun v H2 e2 t => by
  obtain ⟨p, hp⟩ := T.f
  cases t with
  | sys h1 h2 f => exact ⟨_, C, _, p, _, 1, _, rfl, .inr ⟨h1, h2⟩, T.cls, hp, rfl, q _ H2 e2 f⟩
/-! ### statements -/
variable {D : Ends} {ts tu : TS} {tt : TT}
theorem do_ret (h : EvD K C te σ H d) (q : ∀ v H', Ex H H' → Tp K C H' v d → D.rt v H') : tRet te D σ H := h H (Ex.refl _) _ q
theorem do_retN (h : EvN K C te σ H ds) (q : ∀ p xs H', H p = none → Ex H H' → H' p = some (.lst xs) → TpAll K C H' xs ds → D.rt (.ref p) H') : tRet te D σ H := h H (Ex.refl _) _ q
theorem do_set {n : Nat} (h : EvD K C te σ H d) (q : ∀ v H', Ex H H' → Tp K C H' v d → D.nx (σ.set n (some v)) H') : tAsg te (gName n) D σ H := h H (Ex.refl _) _ q
theorem do_setN {n : Nat} (h : EvN K C te σ H ds) (q : ∀ p xs H', H p = none → Ex H H' → H' p = some (.lst xs) → TpAll K C H' xs ds → D.nx (σ.set n (some (.ref p))) H') : tAsg te (gName n) D σ H := h H (Ex.refl _) _ q
theorem do_if (h : EvT tt σ H b) (h1 : b = true → ∀ H', Ex H H' → ts D σ H') (h2 : b = false → ∀ H', Ex H H' → tu D σ H') : tIfS tt ts tu D σ H := h H (Ex.refl _) _ fun H2 e => by
  cases b with
  | true => exact iteT (h1 rfl H2 e)
  | false => exact iteF (h2 rfl H2 e)
theorem do_seq (h : ts { D with nx := tu D } σ H) : tSeq ts tu D σ H := h
theorem do_for {wi : TI} {g : TG} (hi : EvIb K C wi σ H' ds) (e : Ex H' H) (Pv : Nat → L2.St → Hp → Prop) (h0 : ∀ H2, Ex H H2 → Pv 0 σ H2) (hG : ∀ i σ2 H2, Pv i σ2 H2 → Ex H' H2)
    (hs : ∀ i d x σ2 H2 H3, ds[i]? = some d → Pv i σ2 H2 → Ex H2 H3 → Tp K C H3 x d → g x σ2 H3 fun σ4 H4 => ts { D with nx := Pv (i + 1), ct := Pv (i + 1), bk := D.nx } σ4 H4)
    (hd : ∀ σ2 H2, Pv ds.length σ2 H2 → D.nx σ2 H2) : tFor wi g ts D σ H := by
  refine hi H e _ fun J H2 e2 w => ?_
  refine for_it (n := ds.length) (G := fun H => Ex H' H) (Y := fun i H x H3 => Ex H H3 ∧ ∃ d, ds[i]? = some d ∧ Tp K C H3 x d)
    ⟨fun i H hi e => w.goes i H hi e, fun H e => w.stops H e, fun i H x H3 hi e y => w.yields i H x H3 hi e y⟩ Pv (h0 H2 e2) (fun i σ2 H2 _ p => hG i σ2 H2 p)
    (fun i x σ2 H2 H3 _ p ⟨e3, d, hd, td⟩ => hs i d x σ2 H2 H3 hd p e3 td) hd
end
end UW
namespace UW
open PySem L2 Evl StX SlX ClX RZ

def topS (i : Nat) : Stmt := PySem.Challenge.pw_underwords_k06_whole_normal_words_by_roo.main.body.getD i (.Pass ⟨0, 0, 0, 0⟩)
theorem hu64 {A : Around} {k : Nat} (hr : Room k A) : A.units + 64 < cLine := hr.units
/-- a def that stands at the name x and keeps its promise -/
structure Cl (P : Program) (w : World) (K : PySem.W.Frag) (mg : Str → Option Value) (base : Heap) (x : Str) (k : Nat) (sp : Sp) : Prop where
  ex : ∃ (f : Addr) (fd : FuncData) (ps : List Str), FnOk P w K mg base CX0 k f fd ps sp ∧ mg x = some (.ref f) ∧ PySem.W.keepIn K (.ref f) = true ∧ Binds K fd ps []
section
variable {X : Cx} {x : Str} {k : Nat} {sp : Sp} {e : Expr} {es : List Expr} {t : TA} {p pos : Pos}
theorem pe_cl (c : Cl X.prog X.w X.K X.mg X.base x k sp) (hr : Room k X.A) (hg : Gl X x) (ha : PA X (e :: es) t) (hdb : (x == ("__debug__" : Str)) = false := by decide)
    (he : starEach (e :: es) X.env = (false, eval e X.env) :: starEach es X.env := by rfl) (hpl : (backTo pos (starEach es X.env)).any (·.1) = false := by rfl) :
    PE X (.Call (.Name x p) (e :: es) [] pos) (tCall sp [] E0 t) := by
  obtain ⟨f, fd, ps, F, m, kp, b⟩ := c.ex
  exact pe_call F hr hg m kp b .nil pass0 ha hdb he hpl
theorem pe_cl0 (c : Cl X.prog X.w X.K X.mg X.base x k sp) (hr : Room k X.A) (hg : Gl X x) (hdb : (x == ("__debug__" : Str)) = false := by decide) :
    PE X (.Call (.Name x p) [] [] pos) (tCall sp [] E0 tNil) := by
  obtain ⟨f, fd, ps, F, m, kp, b⟩ := c.ex
  exact pe_call0 F hr hg m kp b .nil pass0 hdb
end
/-- names that the program does not bind -/
structure Bt (mg : Str → Option Value) : Prop where
  isinstance : mg "isinstance" = none
  abs : mg "abs" = none
  min : mg "min" = none
  max : mg "max" = none
  any : mg "any" = none
  all : mg "all" = none
  range : mg "range" = none
  tuple : mg "tuple" = none
  int : mg "int" = none
  bool : mg "bool" = none
  sum : mg "sum" = none
  enumerate : mg "enumerate" = none
  zip : mg "zip" = none
  len : mg "len" = none
  next : mg "next" = none
def rTupOf (K : PySem.W.Frag) : List V → Hp → VK → Prop := fun xs H Q => ∃ p ys, xs = [.ref p] ∧ ((SqL K H p ys ∧ ∀ l, H l = none → Q (.ref l) (upd H l (.tup ys))) ∨ (SqT K H p ys ∧ Q (.ref p) H))
def rInt1 : List V → Hp → VK → Prop := fun xs H Q => (∃ i, xs = [.int i] ∧ Q (.int i) H) ∨ ∃ k, xs = [.bl k] ∧ Q (.int (if k then 1 else 0)) H
def rAbs : List V → Hp → VK → Prop := fun xs H Q => ∃ i, xs = [.int i] ∧ Q (.int (if i < 0 then -i else i)) H

section
variable {P : Program} {w : World} {K : PySem.W.Frag} {mg : Str → Option Value} {base : Heap} {C : Addr}
abbrev s_is_whole : Stmt := topS 7
theorem sc_is_whole : FnScope ["value"] ["value"] (defScope s_is_whole) := ⟨rfl, rfl, rfl, by decide +kernel, rfl, by decide +kernel, by decide +kernel⟩
def R_is_whole (ds : List Dt) (d : Dt) : Prop := ∃ i : Int, ds = [.int i] ∧ d = .bl true
abbrev sp_is_whole (K : PySem.W.Frag) (C : Addr) : Sp := spP K C R_is_whole
section
variable {σ : L2.St} {H : Hp} {ta : TE} {i : Int}
theorem evd_isInt (h : EvD K C ta σ H (.int i)) (n : String) (b : Bool) (hk : PySem.W.kitOne K (.type "int") (.type n) = some b) : EvD K C (tCB (rIsi K) (tCons ta (tCons (tC (.ty n)) tNil))) σ H (.bl b) :=
  fun H1 e Q q => h H1 e _ fun v H2 e2 t => by
    cases t
    exact ⟨_, _, .type "int", .type n, b, rfl, .ty n, .base (.int i), hk, q _ H2 e2 (.bl b)⟩
end
theorem ok_is_whole {f : Addr} {fd : FuncData} (F : Fun K "is_whole" "is_whole" s_is_whole f fd) (T : Bt mg) : FnOk P w K mg base CX0 1 f fd ["value"] (sp_is_whole K C) := by
  refine F.ok sc_is_whole (spP_len (n := 1) fun ds d ⟨i, h, _⟩ => by rw [h]; rfl) fun cdv A outer s H vs Q E hr h => ?_
  obtain ⟨ds, d, al, ⟨i, rfl, rfl⟩, q⟩ := h
  cases al with
  | cons t al =>
    cases al
    rename_i v
    have nd := sc_is_whole.nd
    refine ⟨_, pss_one (ps_ret (pe_and (pe_callB call_isi (by rfl) T.isinstance (by decide +kernel) (pa_cons (pv 0) (pa_cons (pe_bltn (v := .ty "int") (by rfl) T.int (by decide +kernel) rfl) pa_nil))) (pe_one (pe_not (pe_callB call_isi (by rfl) T.isinstance (by decide +kernel) (pa_cons (pv 0) (pa_cons (pe_bltn (v := .ty "bool") (by rfl) T.bool (by decide +kernel) rfl) pa_nil))))))), ?_⟩
    refine do_ret (K := K) (C := C) (d := .bl (true && !false)) (evd_andV (evd_isInt (evd_var rfl t) "int" true (kit_ty (by decide +kernel))) fun _ => evd_notV (evd_isInt (evd_var rfl t) "bool" false (kit_ty (by decide +kernel)))) q
end
end UW
namespace UW
open PySem PySem.W L2 Evl
def rMinT (K : PySem.W.Frag) : List V → Hp → VK → Prop := fun vs H Q => ∃ (a : Addr) (n : Int) (ns : List Int), vs = [V.ref a] ∧ SqT K H a ((n :: ns).map V.int) ∧ Q (.int (minOf n ns)) H
section
variable {X : Cx}
theorem dpAll_ints {K : PySem.W.Frag} {H : Hp} : ∀ (ns : List Int), DpAll K H (ns.map V.int) (ns.map Datum.toD)
  | [] => .nil
  | n :: ns => .cons (.int n) (dpAll_ints ns)
theorem cr_minT (hc : X.calm = true) (hu : X.A.units + 64 < cLine) : CallR X (.builtin "min") (rMinT X.K) := by
  intro pins s σ H vs us Q I r h
  obtain ⟨a, n, ns, rfl, hs, q⟩ := h
  obtain ⟨its, rv, hl, _⟩ := I.tuple hs
  rw [Vals.ref1 r]
  obtain ⟨as, ra⟩ := Dp.readsAll I _ _ _ (dpAll_ints (n :: ns)) rv
  refine min_tuple_datum (I.ok.hd hc) hl ⟨as, ra⟩ (by show X.A.units + 1 + 0 < cLine; omega) fun i v h' tk hi hv hk => ?_
  obtain ⟨bs, hr⟩ := hv
  cases hr with
  | int => exact ⟨.int _, H, I.kept hk, ⟨_, rfl⟩, q⟩
end
theorem minOf_lt (n : Int) (ns : List Int) : minOf n ns < 0 ↔ ∃ m ∈ n :: ns, m < 0 := by
  have key : ∀ (ns : List Int) (n : Int), minOf n ns < 0 ↔ ∃ m ∈ n :: ns, m < 0 := by
    intro ns
    induction ns with
    | nil => intro n; simp [minOf]
    | cons k ns ih =>
      intro n
      have e : minOf n (k :: ns) = minOf (if k < n then k else n) ns := by
        unfold minOf
        rw [List.foldl_cons]
        congr 1
        by_cases h : k < n
        · simp [DatumOrd.lt, h]
        · simp [DatumOrd.lt, h]
      rw [e, ih]
      by_cases h : k < n
      · rw [if_pos h]
        simp only [List.mem_cons, exists_eq_or_imp]
        constructor
        · rintro (h1 | h1)
          · exact .inr (.inl h1)
          · exact .inr (.inr h1)
        · rintro (h1 | h1 | h1)
          · exact .inl (by omega)
          · exact .inl h1
          · exact .inr h1
      · rw [if_neg h]
        simp only [List.mem_cons, exists_eq_or_imp]
        constructor
        · rintro (h1 | h1)
          · exact .inl h1
          · exact .inr (.inr h1)
        · rintro (h1 | h1 | h1)
          · exact .inl h1
          · exact .inl (by omega)
          · exact .inr h1
  exact key ns n
section
variable {K : PySem.W.Frag} {C : Addr} {H : Hp} {σ : L2.St} {ta : TE}
theorem evd_minT {n : Int} {ns : List Int} (h : EvD K C ta σ H (.tup ((n :: ns).map Dt.int))) : EvD K C (tCB (rMinT K) (tCons ta tNil)) σ H (.int (minOf n ns)) :=
  fun H1 e Q q => h H1 e _ fun v H2 e2 t => by
    obtain ⟨a, xs, rfl, hs, al⟩ := t.tup'
    have := al.ints
    subst this
    exact ⟨a, n, ns, rfl, hs, q _ H2 e2 (.int _)⟩
end
end UW
namespace UW
open PySem L2 Evl StX SlX ClX RZ
section
variable {K : PySem.W.Frag} {C : Addr} {H H' : Hp} {σ : L2.St} {ta tb tc te : TE} {t : TA} {d dx dy dz : Dt} {ds es : List Dt} {i j : Int} {b : Bool} {D : Ends} {ts tu : TS}
theorem do_par {m n : Nat} (h : EvDs K C t σ H [dx, dy]) (q : ∀ v w H', Ex H H' → Tp K C H' v dx → Tp K C H' w dy → D.nx ((σ.set m (some v)).set n (some w)) H') : tPar m n t D σ H :=
  h H (Ex.refl _) _ fun vs H3 e3 al => by
    obtain _ | ⟨t2, _ | ⟨t3, _ | _⟩⟩ := al
    exact ⟨_, _, rfl, q _ _ H3 e3 t2 t3⟩
theorem g_two {v : V} {m n : Nat} {Q : L2.St → Hp → Prop} (t : Tp K C H v (.tup [dx, dy])) (q : ∀ x y, Tp K C H x dx → Tp K C H y dy → Q ((σ.set m (some x)).set n (some y)) H) :
    gTup K 2 (gCons (gName m) (gCons (gName n) gNil)) v σ H Q := by
  obtain ⟨a, xs, rfl, hs, al⟩ := t.tup'
  obtain _ | ⟨t2, _ | ⟨t3, _ | _⟩⟩ := al
  exact ⟨a, _, rfl, hs, rfl, _, _, rfl, _, _, rfl, rfl, q _ _ t2 t3⟩
theorem g_three {v : V} {m n k : Nat} {Q : L2.St → Hp → Prop} (t : Tp K C H v (.tup [dx, dy, dz])) (q : ∀ x y z, Tp K C H x dx → Tp K C H y dy → Tp K C H z dz → Q (((σ.set m (some x)).set n (some y)).set k (some z)) H) :
    gTup K 3 (gCons (gName m) (gCons (gName n) (gCons (gName k) gNil))) v σ H Q := by
  obtain ⟨a, xs, rfl, hs, al⟩ := t.tup'
  obtain _ | ⟨t2, _ | ⟨t3, _ | ⟨t4, _ | _⟩⟩⟩ := al
  exact ⟨a, _, rfl, hs, rfl, _, _, rfl, _, _, rfl, _, _, rfl, rfl, q _ _ _ t2 t3 t4⟩
theorem do_two {m n : Nat} (h : EvD K C te σ H (.tup [dx, dy])) (q : ∀ v w H', Ex H H' → Tp K C H' v dx → Tp K C H' w dy → D.nx ((σ.set m (some v)).set n (some w)) H') :
    tAsg te (gTup K 2 (gCons (gName m) (gCons (gName n) gNil))) D σ H :=
  h H (Ex.refl _) _ fun v H3 e3 t => g_two t fun x y tx ty => q x y H3 e3 tx ty
theorem do_augI {n : Nat} {v : V} (hv : σ[n]? = some (some v)) (tv : Tp K C H v (.int i)) (h : EvD K C te σ H (.int j)) (q : ∀ v H', Ex H H' → Tp K C H' v (.int (i + j)) → D.nx (σ.set n (some v)) H') :
    tAug n te (ipI fun i j => i + j) D σ H := by
  cases tv
  refine ⟨_, hv, h H (Ex.refl _) _ fun y H2 e2 t => ?_⟩
  cases t
  exact ⟨i, j, rfl, rfl, q _ H2 e2 (.int _)⟩
/-- a comprehension with a plain name -/
theorem evn_lc1 {wi : TI} {m : Nat} (hi : EvI K C wi σ H ds) (hl : ds.length = es.length) (hz : ds.length < 100000) (hn : noLs es = true)
    (hw : ∀ x : V, wipe ((wipe σ [m]).set m (some x)) [m] = wipe σ [m])
    (hs : ∀ (k : Nat) (d e : Dt) (x : V) (H1 : Hp), ds[k]? = some d → es[k]? = some e → Ex H H1 → Tp K C H1 x d → EvD K C te ((wipe σ [m]).set m (some x)) H1 e) :
    EvN K C (tLc wi (gName m) tYes te [m]) σ H es :=
  evn_lc hi hl hz hn fun k d e x H1 hd he e1 tx => ⟨_, fun Q q => q, hw x, hs k d e x H1 hd he e1 tx⟩
/-- .. with two names -/
theorem evn_lc2 {wi : TI} {m n : Nat} {f : Nat → Dt × Dt} (hi : EvI K C wi σ H ds) (hl : ds.length = es.length) (hz : ds.length < 100000) (hn : noLs es = true)
    (hw : ∀ x y : V, wipe (((wipe σ [m, n]).set m (some x)).set n (some y)) [m, n] = wipe σ [m, n])
    (hf : ∀ (k : Nat) (d : Dt), ds[k]? = some d → d = Dt.tup [(f k).1, (f k).2])
    (hs : ∀ (k : Nat) (e : Dt) (x y : V) (H1 : Hp), k < es.length → es[k]? = some e → Ex H H1 → Tp K C H1 x (f k).1 → Tp K C H1 y (f k).2 → EvD K C te (((wipe σ [m, n]).set m (some x)).set n (some y)) H1 e) :
    EvN K C (tLc wi (gTup K 2 (gCons (gName m) (gCons (gName n) gNil))) tYes te [m, n]) σ H es :=
  evn_lc hi hl hz hn fun k d e v H1 hd he e1 tv => by
    have hk : k < es.length := (List.getElem?_eq_some_iff.mp he).1
    rw [hf k d hd] at tv
    obtain ⟨a, xs, rfl, hx, al⟩ := tv.tup'
    obtain _ | ⟨t2, _ | ⟨t3, _ | _⟩⟩ := al
    exact ⟨_, fun Q q => ⟨a, _, rfl, hx, rfl, _, _, rfl, _, _, rfl, rfl, q⟩, hw _ _, hs k e _ _ H1 hk he e1 t2 t3⟩
end
end UW
namespace UW
open PySem L2 Evl StX SlX ClX RZ
section
variable {P : Program} {w : World} {K : PySem.W.Frag} {mg : Str → Option Value} {base : Heap} {C : Addr}
theorem iabs (i : Int) : (if i < 0 then -i else i) = (i.natAbs : Int) := by split <;> omega
/-! is_within -/
abbrev s_is_within : Stmt := topS 8
theorem sc_is_within : FnScope ["value", "least", "greatest"] ["value", "least", "greatest"] (defScope s_is_within) := ⟨rfl, rfl, rfl, by decide +kernel, rfl, by decide +kernel, by decide +kernel⟩
def R_is_within (ds : List Dt) (d : Dt) : Prop := ∃ i j k : Int, ds = [.int i, .int j, .int k] ∧ d = .bl (decide (j ≤ i) && decide (i ≤ k))
abbrev sp_is_within (K : PySem.W.Frag) (C : Addr) : Sp := spP K C R_is_within
theorem ok_is_within {f : Addr} {fd : FuncData} (F : Fun K "is_within" "is_within" s_is_within f fd) (T : Bt mg) (c_is_whole : Cl P w K mg base "is_whole" 1 (sp_is_whole K C)) : FnOk P w K mg base CX0 2 f fd ["value", "least", "greatest"] (sp_is_within K C) := by
  refine F.ok sc_is_within (spP_len (n := 3) fun ds d ⟨i, j, k, h, _⟩ => by rw [h]; rfl) fun cdv A outer s H vs Q E hr h => ?_
  obtain ⟨ds, d, al, ⟨i, j, k, rfl, rfl⟩, q⟩ := h
  obtain _ | ⟨t0, _ | ⟨t1, _ | ⟨t2, _ | _⟩⟩⟩ := al
  refine ⟨_, pss_one (ps_ret (pe_and (pe_cl c_is_whole (hr.mono (by decide)) rfl (pa_cons (pv 0) pa_nil)) (pe_one (pe_chain op_le op_le (pv 1) (pv 0) (pv 2))))), ?_⟩
  exact do_ret (K := K) (C := C) (d := .bl (true && _)) (evd_andV (evd_call (eds_cons (evd_var rfl t0) eds_nil) ⟨i, rfl, rfl⟩) fun _ => evd_chain (g := fun i j => decide (i ≤ j)) (g' := fun i j => decide (i ≤ j)) (evd_var rfl t1) (evd_var rfl t0) (evd_var rfl t2)) q
/-! is_below -/
abbrev s_is_below : Stmt := topS 10
theorem sc_is_below : FnScope ["whole", "part", "high", "low", "square"] ["whole", "part"] (defScope s_is_below) := ⟨rfl, rfl, rfl, by decide +kernel, rfl, by decide +kernel, by decide +kernel⟩
def Small (i : Int) : Prop := i.natAbs < 2 ^ 1000
def R_is_below (ds : List Dt) (d : Dt) : Prop := ∃ i j : Int, ds = [.int i, .int j] ∧ Small i ∧ Small j ∧ d = .bl (Gd.isBelow ⟨i, j⟩)
abbrev sp_is_below (K : PySem.W.Frag) (C : Addr) : Sp := spP K C R_is_below
theorem small_mul {i j : Int} (hi : Small i) (hj : Small j) : CMulW i j := wide_mul hi hj (by decide) (by decide) (by decide)
theorem ok_is_below {f : Addr} {fd : FuncData} (F : Fun K "is_below" "is_below" s_is_below f fd) (T : Bt mg) : FnOk P w K mg base CX0 1 f fd ["whole", "part"] (sp_is_below K C) := by
  refine F.ok sc_is_below (spP_len (n := 2) fun ds d ⟨i, j, h, _⟩ => by rw [h]; rfl) fun cdv A outer s H vs Q E hr h => ?_
  obtain ⟨ds, d, al, ⟨i, j, rfl, hi, hj, rfl⟩, q⟩ := h
  obtain _ | ⟨t0, _ | ⟨t1, _ | _⟩⟩ := al
  have nd := sc_is_below.nd
  refine ⟨_, pss_cons (ps_if (PW.pt (pw_and (pt_cmpR op_ge (pv 0) pe_int (nomark _)) (pw_and1 (pt_cmpR op_ge (pv 1) pe_int (nomark _))))) (pss_one (ps_ret pe_bl)) (pss_nil))
    (pss_cons (ps_if (PW.pt (pw_and (pt_cmpR op_le (pv 0) pe_int (nomark _)) (pw_and1 (pt_cmpR op_le (pv 1) pe_int (nomark _))))) (pss_one (ps_ret pe_bl)) (pss_nil))
    (pss_cons (ps_par (i := 2) (j := 3) rfl nd rfl rfl (by decide) rfl rfl (pa_cons (pe_callB call_abs (by rfl) T.abs (by decide +kernel) (pa_cons (pv 0) pa_nil)) (pa_cons (pe_callB call_abs (by rfl) T.abs (by decide +kernel) (pa_cons (pv 1) pa_nil)) pa_nil)) (by rfl))
    (pss_cons (ps_set (i := 4) nd rfl (Or.inl rfl) (pe_op op_sub (pe_op op_sub (pe_op op_mulW (pv 2) (pv 2)) (pe_op op_mulW (pv 2) (pv 3))) (pe_op op_mulW (pv 3) (pv 3))))
    (pss_one (ps_ret (pe_ifExp (pt_cmpR op_lt (pv 0) pe_int (nomark _)) (pe_cmpR op_gt (pv 4) pe_int (nomark _)) (pe_cmpR op_lt (pv 4) pe_int (nomark _)))))))), ?_⟩
  refine do_seq (do_if (et_and (evt_test (evd_ge (evd_var rfl t0) evd_int)) fun _ => evt_test (evd_ge (evd_var rfl t1) evd_int)) (fun h H1 e1 => do_ret (K := K) (C := C) (d := .bl false) evd_bl fun v H2 e2 t => ?_) fun h H1 e1 => ?_)
  · refine q v H2 (e1.trans e2) ?_
    simp only [Bool.and_eq_true, decide_eq_true_eq] at h
    have : Gd.isBelow ⟨i, j⟩ = false := by unfold Gd.isBelow; rw [if_pos (by simpa using h)]
    rw [this]; exact t
  have u0 := t0.ex e1
  have u1 := t1.ex e1
  refine do_seq (do_if (et_and (evt_test (evd_le (evd_var rfl u0) evd_int)) fun _ => evt_test (evd_le (evd_var rfl u1) evd_int)) (fun h' H2 e2 => do_ret (K := K) (C := C) (d := .bl true) evd_bl fun v H3 e3 t => ?_) fun h' H2 e2 => ?_)
  · refine q v H3 ((e1.trans e2).trans e3) ?_
    simp only [Bool.and_eq_true, decide_eq_true_eq] at h'
    have hf : ¬ (0 ≤ i ∧ 0 ≤ j) := by intro z; simp [z.1, z.2] at h
    have : Gd.isBelow ⟨i, j⟩ = true := by unfold Gd.isBelow; rw [if_neg (by simpa using hf), if_pos (by simpa using h')]
    rw [this]; exact t
  have v0 := u0.ex e2
  have v1 := u1.ex e2
  refine do_seq (do_par (eds_cons (evd_abs (evd_var rfl v0)) (eds_cons (evd_abs (evd_var rfl v1)) eds_nil)) fun v2 v3 H3 e3 t2 t3 => ?_)
  rw [iabs] at t2 t3
  have sa : ∀ i : Int, Small i → Small (i.natAbs : Int) := fun i h => by unfold Small at *; rw [Int.natAbs_natCast]; exact h
  refine do_seq (do_set (K := K) (C := C) (evd_sub (evd_sub (evd_mulW (evd_var rfl t2) (evd_var rfl t2) (small_mul (sa i hi) (sa i hi))) (evd_mulW (evd_var rfl t2) (evd_var rfl t3) (small_mul (sa i hi) (sa j hj)))) (evd_mulW (evd_var rfl t3) (evd_var rfl t3) (small_mul (sa j hj) (sa j hj)))) fun v4 H4 e4 t4 => ?_)
  have w0 := (v0.ex e3).ex e4
  have hf : ¬ (0 ≤ i ∧ 0 ≤ j) := by intro z; simp [z.1, z.2] at h
  have hg : ¬ (i ≤ 0 ∧ j ≤ 0) := by intro z; simp [z.1, z.2] at h'
  have eq : Gd.isBelow ⟨i, j⟩ = (if i < 0 then decide (0 < (i.natAbs : Int) * i.natAbs - i.natAbs * j.natAbs - j.natAbs * j.natAbs) else decide ((i.natAbs : Int) * i.natAbs - i.natAbs * j.natAbs - j.natAbs * j.natAbs < 0)) := by
    unfold Gd.isBelow; rw [if_neg (by simpa using hf), if_neg (by simpa using hg)]
  refine do_ret (K := K) (C := C) (d := .bl (Gd.isBelow ⟨i, j⟩)) (evd_if (b := decide (i < 0)) (evt_test (evd_lt (evd_var rfl w0) evd_int)) (fun h => ?_) fun h => ?_) fun v H5 e5 t => q v H5 ((((e1.trans e2).trans e3).trans e4).trans e5) t
  · exact (evd_gt (evd_var rfl t4) evd_int).to (by rw [eq, if_pos (of_decide_eq_true h)])
  · exact (evd_lt (evd_var rfl t4) evd_int).to (by rw [eq, if_neg (of_decide_eq_false h)])
end
end UW
namespace UW
open PySem L2 Evl StX SlX ClX RZ
def rowP (g : Bool) (r : List Gd) : Dt := .tup ((rowI g r).map Dt.int)
def frP (g : Bool) (st : List (List Gd)) : Dt := .tup (st.map (rowP g))
theorem rowI_tup (g : Bool) (r : List Gd) : rowP g r = .tup ((rowI g r).map Dt.int) := rfl
@[simp] theorem noLs_ints {ns : List Int} : noLs (ns.map Dt.int) = true := by
  rw [noLs_iff]; intro d hd; obtain ⟨x, _, rfl⟩ := List.mem_map.mp hd; simp
@[simp] theorem noLs_bls {ns : List Bool} : noLs (ns.map Dt.bl) = true := by
  rw [noLs_iff]; intro d hd; obtain ⟨x, _, rfl⟩ := List.mem_map.mp hd; simp
@[simp] theorem noL_rowP {g : Bool} {r : List Gd} : noL (rowP g r) = true := by unfold rowP; simp
theorem noLs_map {α : Type} {f : α → Dt} (h : ∀ x, noL (f x) = true) (xs : List α) : noLs (xs.map f) = true := by
  rw [noLs_iff]; intro d hd; obtain ⟨x, _, rfl⟩ := List.mem_map.mp hd; exact h x
def smallR (r : List Gd) : Prop := ∀ x ∈ r, Small x.a ∧ Small x.b
def SyOk (S : Sy) : Prop := FacOk S.golden S.n S.F
section
variable {P : Program} {w : World} {K : PySem.W.Frag} {mg : Str → Option Value} {base : Heap} {C : Addr}
/-! is_row_below -/
abbrev s_is_row_below : Stmt := topS 11
theorem sc_is_row_below : FnScope ["system", "row", "size", "at"] ["system", "row"] (defScope s_is_row_below) := ⟨rfl, rfl, rfl, by decide +kernel, rfl, by decide +kernel, by decide +kernel⟩
def R_is_row_below (ds : List Dt) (d : Dt) : Prop := ∃ (S : Sy) (r : List Gd), ds = [.sys S, rowP S.golden r] ∧ SyOk S ∧ RowOk S.golden S.n r ∧ smallR r ∧ d = .bl (lowRow r)
abbrev sp_is_row_below (K : PySem.W.Frag) (C : Addr) : Sp := spP K C R_is_row_below
theorem ok_is_row_below {f : Addr} {fd : FuncData} (F : Fun K "is_row_below" "is_row_below" s_is_row_below f fd) (T : Bt mg) (Ts : TS0 K C) (c_is_below : Cl P w K mg base "is_below" 1 (sp_is_below K C)) :
    FnOk P w K mg base CX0 2 f fd ["system", "row"] (sp_is_row_below K C) := by
  refine F.ok sc_is_row_below (spP_len (n := 2) fun ds d ⟨S, r, h, _⟩ => by rw [h]; rfl) fun cdv A outer s H vs Q E hr h => ?_
  obtain ⟨ds, d, al, ⟨S, r, rfl, hS, hrow, hsm, rfl⟩, q⟩ := h
  obtain _ | ⟨t0, _ | ⟨t1, _ | _⟩⟩ := al
  have nd := sc_is_row_below.nd
  refine ⟨_, pss_cons (ps_if (pt_not (pt_val (pe_sl (pv 0)))) (pss_one (ps_ret (pe_cmpR op_lt (pe_callB (cr_minT rfl (hu64 hr)) (by rfl) T.min (by decide +kernel) (pa_cons (pv 1) pa_nil)) pe_int (nomark _)))) (pss_nil))
    (pss_cons (ps_set (i := 2) nd rfl (Or.inr rfl) (pe_sl (pv 0)))
    (pss_one (ps_ret (pe_callB (cr_any rfl) (by rfl) T.any (by decide +kernel) (pa_cons (pe_lc (own := [("at", 3)]) (g := (gName 3)) (tt := tYes) (te := (tCall (sp_is_below K C) [] E0 (tCons (tOp (rIxT K) (tVar 1) (tVar 3)) (tCons (tOp (rIxT K) (tVar 1) (tOp (rI0 fun i j => .int (i + j)) (tVar 3) (tVar 2))) tNil)))) rfl nd (pi_range1 (by rfl) T.range (pa_cons (pv 2) pa_nil)) (blkOk_by (own := [("at", 3)]) (N := ["system", "row", "size", "at"]) (sc := defScope s_is_row_below) (by decide +kernel)) (fun _ _ _ _ _ => (pg_name (i := 3) nd rfl (Or.inl rfl))) (fun _ _ _ _ _ => pts_nil) (fun _ _ _ _ _ => (pe_cl c_is_below (hr.mono (by decide)) rfl (pa_cons (pe_ix ix_tup (pv 1) (pv 3) (fun _ _ => rfl)) (pa_cons (pe_ix ix_tup (pv 1) (pe_op op_add (pv 3) (pv 2)) (fun _ _ => rfl)) pa_nil))))) pa_nil))))), ?_⟩
  refine do_seq (do_if (et_not (evt_B (evd_golden Ts (evd_var rfl t0)))) (fun h H1 e1 => ?_) fun h H1 e1 => ?_)
  · have hg : S.golden = false := by simpa using h
    have hl : 0 < r.length := by rw [hrow.1]; exact hS.n1
    obtain ⟨x, r', rfl⟩ : ∃ x r', r = x :: r' := by
      cases r with
      | nil => simp at hl
      | cons x r' => exact ⟨x, r', rfl⟩
    have e : rowI S.golden (x :: r') = x.a :: r'.map (fun x => x.a) := by rw [hg]; rfl
    have t1' := t1.ex e1
    rw [rowI_tup, e] at t1'
    refine do_ret (K := K) (C := C) (evd_lt (evd_minT (evd_var rfl t1')) evd_int) fun v H2 e2 t => q v H2 (e1.trans e2) ?_
    have : decide (PySem.W.minOf x.a (r'.map fun x => x.a) < 0) = lowRow (x :: r') := by
      rw [Bool.eq_iff_iff, decide_eq_true_eq, minOf_lt, lowRow_int (hrow.2 hg)]
      rfl
    rw [this] at t
    exact t
  · have hg : S.golden = true := by simpa using h
    rw [hg] at t1 hrow
    refine do_seq (do_set (K := K) (C := C) (evd_letters Ts (evd_var rfl (t0.ex e1))) fun v2 H2 e2 t2 => ?_)
    have u1 := (t1.ex e1).ex e2
    have hlen : (rngD 0 S.n).length = S.n := rngD_len
    refine do_ret (K := K) (C := C) (evd_any (bs := r.map Gd.isBelow) (evn_lc1 (ds := rngD 0 S.n) (evi_rng1 (eds_cons (evd_var rfl t2) eds_nil) (by have := hS.n4; omega)).w (by simp [hrow.1, rngD_len]) (by have := hS.n4; omega) noLs_bls (fun _ => rfl) ?_)) fun v H3 e3 t => q v H3 ((e1.trans e2).trans e3) ?_
    · intro k d e x H4 hd he e4 tx
      have hk : k < S.n := by
        have := (List.getElem?_eq_some_iff.mp hd).1
        rwa [rngD_len] at this
      rw [rngD_get hk, Int.zero_add] at hd
      cases hd
      rw [List.map_map, List.getElem?_map] at he
      obtain ⟨y, hy⟩ : ∃ y, r[k]? = some y := ⟨r[k]'(by rw [hrow.1]; exact hk), List.getElem?_eq_getElem _⟩
      rw [hy] at he
      cases he
      have ym := List.mem_of_getElem? hy
      refine evd_call (eds_cons (evd_ixT (n := k) (evd_var rfl (u1.ex e4)) (evd_var rfl tx) rfl (by rw [List.getElem?_map, rowI_get_a true hy]; rfl)) (eds_cons (evd_ixT (n := k + r.length) (evd_var rfl (u1.ex e4)) (evd_add (evd_var rfl tx) (evd_var rfl (t2.ex e4))) (by rw [hrow.1]; omega) (by rw [List.getElem?_map, rowI_get_b hy]; rfl)) eds_nil)) ⟨y.a, y.b, rfl, (hsm y ym).1, (hsm y ym).2, rfl⟩
    · have : (r.map Gd.isBelow).any id = lowRow r := by unfold lowRow; rw [List.any_map]; rfl
      rw [this] at t
      exact t
/-! letter_row -/
abbrev s_letter_row : Stmt := topS 12
theorem sc_letter_row : FnScope ["system", "letter", "width", "at"] ["system", "letter"] (defScope s_letter_row) := ⟨rfl, rfl, rfl, by decide +kernel, rfl, by decide +kernel, by decide +kernel⟩
def R_letter_row (ds : List Dt) (d : Dt) : Prop := ∃ (S : Sy) (l : Nat), ds = [.sys S, .int (l : Int)] ∧ SyOk S ∧ l < S.n ∧ d = rowP S.golden ((List.range S.n).map fun j => if j = l then (1 : Gd) else 0)
abbrev sp_letter_row (K : PySem.W.Frag) (C : Addr) : Sp := spP K C R_letter_row
theorem ok_letter_row {f : Addr} {fd : FuncData} (F : Fun K "letter_row" "letter_row" s_letter_row f fd) (T : Bt mg) (Ts : TS0 K C) :
    FnOk P w K mg base CX0 1 f fd ["system", "letter"] (sp_letter_row K C) := by
  refine F.ok sc_letter_row (spP_len (n := 2) fun ds d ⟨S, r, h, _⟩ => by rw [h]; rfl) fun cdv A outer s H vs Q E hr h => ?_
  obtain ⟨ds, d, al, ⟨S, l, rfl, hS, hl, rfl⟩, q⟩ := h
  obtain _ | ⟨t0, _ | ⟨t1, _ | _⟩⟩ := al
  have nd := sc_letter_row.nd
  refine ⟨_, pss_cons (ps_set (i := 2) nd rfl (Or.inl rfl) (pe_op op_mul (pe_sl (pv 0)) (pe_ifExp (pt_val (pe_sl (pv 0))) pe_int pe_int)))
    (pss_one (ps_ret (pe_callTy call_tuple_of (by rfl) T.tuple (by decide +kernel) (pa_cons (pe_lc (own := [("at", 3)]) (g := (gName 3)) (tt := tYes) (te := (tCB rInt1 (tCons (tOp rEq (tVar 3) (tVar 1)) tNil))) rfl nd (pi_range1 (by rfl) T.range (pa_cons (pv 2) pa_nil)) (blkOk_by (own := [("at", 3)]) (N := ["system", "letter", "width", "at"]) (sc := defScope s_letter_row) (by decide +kernel)) (fun _ _ _ _ _ => (pg_name (i := 3) nd rfl (Or.inl rfl))) (fun _ _ _ _ _ => pts_nil) (fun _ _ _ _ _ => (pe_callTy call_int1 (by rfl) T.int (by decide +kernel) (pa_cons (pe_cmpR op_eq (pv 3) (pv 1) (nomark _)) pa_nil)))) pa_nil)))), ?_⟩
  rename_i x0 x1
  have hn4 := hS.n4
  have wd : ∃ m : Nat, m = (if S.golden then S.n + S.n else S.n) ∧ EvD K C (tOp (rI CMul fun i j => .int (i * j)) (tSl K (tVar 0) "own_letters") (tIf (tB (tSl K (tVar 0) "own_golden")) (tC (.int 2)) (tC (.int 1)))) (L2.start ["system", "letter", "width", "at"] [x0, x1]) H (.int (m : Int)) := by
    refine ⟨_, rfl, (evd_mul (i := S.n) (j := if S.golden then 2 else 1) (evd_letters Ts (evd_var rfl t0)) (evd_if (b := S.golden) (evt_B (evd_golden Ts (evd_var rfl t0))) (fun h => evd_int.to (by rw [h]; rfl)) fun h => evd_int.to (by rw [h]; rfl)) (.inl ⟨by omega, by omega⟩)).to ?_⟩
    congr 1
    cases S.golden
    · simp
    · simp; omega
  obtain ⟨m, hm, ev⟩ := wd
  refine do_seq (do_set (K := K) (C := C) ev fun v2 H2 e2 t2 => ?_)
  have hm8 : m ≤ 8 := by rw [hm]; split <;> omega
  refine do_ret (K := K) (C := C) (evd_tuple (evn_lc1 (es := ((List.range m).map fun k => if k = l then (1 : Int) else 0).map Dt.int) (evi_rng1 (eds_cons (evd_var rfl t2) eds_nil) (by omega)).w (by simp [rngD_len]) (by rw [rngD_len]; omega) noLs_ints (fun _ => rfl) ?_)) fun v H3 e3 t => q v H3 (e2.trans e3) ?_
  · intro k d e x H4 hd he e4 tx
    have hk : k < m := by
      have := (List.getElem?_eq_some_iff.mp hd).1
      rwa [rngD_len] at this
    rw [rngD_get hk, Int.zero_add] at hd
    cases hd
    rw [List.map_map, List.getElem?_map, List.getElem?_range hk] at he
    cases he
    refine (evd_int1b (evd_eqI (evd_var rfl tx) (evd_var rfl ((t1.ex e2).ex e4)))).to ?_
    show Dt.int (if decide ((k : Int) = (l : Int)) = true then 1 else 0) = Dt.int (if k = l then 1 else 0)
    congr 1
    by_cases h : k = l
    · simp [h]
    · rw [if_neg h, if_neg (by simp; omega)]
  · rw [rowI_tup, rowI_one hl, ← hm]
    exact t
end
end UW
namespace UW
open PySem PySem.Spec PyProof.Rows L2

/-! ### next(x for x in .. if test, None), the test by rules of its own frame -/
abbrev gFrame (X : Cx) (scope : Scope) (L : Addr) (code : Value) : Env := genEnv scope (cloFrom X.env.cells scope.names []) L code builtinsNs X.env
/-- the context of the generator expression's frame; s, H: ahead of its making -/
def gCx (X : Cx) (A : Around) (x : Str) (scope : Scope) (fp : List Addr) (s : Shared) (H : Hp) (code : Value) : Cx :=
  { prog := X.prog, w := X.w, K := X.K, mg := X.mg, base := X.base, A := A.deeper (gFrame X scope s.heap.objs.size code), N := X.N ++ [x], s_0 := s, H_0 := H,
    env := gFrame X scope s.heap.objs.size code, outer := X.stack, stack := gFrame X scope s.heap.objs.size code :: X.stack, ex := fp, fn := fun _ => false, calm := true, pn := [], xe := fun _ _ => False }
structure GScp (sc scope : Scope) (N : List Str) (x : Str) : Prop where
  kind : scope.kind = .function
  co : scope.isCoroutine = false
  cell : ∀ y ∈ scope.names, y.2 ≠ .cell
  dot : scope.names.lookup (".0" : Str) = some NameKind.local
  loc : scope.names.lookup x = some .local
  free : ∀ y ∈ scope.names, y.2 = .free → sc.names.lookup y.1 = some .cell ∨ sc.names.lookup y.1 = some .free
  own : ∀ y ∈ N, scope.names.lookup y ≠ some .local
  nd : (N ++ [x]).Nodup
def gscpB (sc scope : Scope) (N : List Str) (x : Str) : Bool :=
  decide (scope.kind = .function) && !scope.isCoroutine && decide (scope.names.lookup (".0" : Str) = some NameKind.local) && decide (scope.names.lookup x = some .local) && decide (N ++ [x]).Nodup &&
    (N.all fun y => !decide (scope.names.lookup y = some .local)) && scope.names.all fun y => !decide (y.2 = .cell) && (!decide (y.2 = .free) || decide (sc.names.lookup y.1 = some .cell) || decide (sc.names.lookup y.1 = some .free))
theorem gscp_by {sc scope : Scope} {N : List Str} {x : Str} (h : gscpB sc scope N x = true) : GScp sc scope N x := by
  unfold gscpB at h
  simp only [Bool.and_eq_true, Bool.or_eq_true, Bool.not_eq_true', decide_eq_true_eq, decide_eq_false_iff_not, List.all_eq_true] at h
  obtain ⟨⟨⟨⟨⟨⟨h1, h2⟩, h3⟩, h4⟩, h5⟩, h6⟩, h7⟩ := h
  refine ⟨h1, h2, fun y hy => (h7 y hy).1, h3, h4, fun y hy e => ?_, h6, h5⟩
  rcases (h7 y hy).2 with (z | z) | z
  · exact absurd e z
  · exact .inl z
  · exact .inr z
section
variable {X : Cx} {pins : List (Addr × Obj)} {σ : L2.St} {H : Hp} {s : Shared} {scope : Scope} {x : Str} {fp : List Addr}
theorem GScp.has {N : List Str} (S : GScp X.env.scope scope N x) (ok : X.Ok) : ∀ y ∈ scope.names, y.2 = .free → ∃ c, X.env.cells.lookup y.1 = some c := fun y hy e =>
  (S.free y hy e).elim (fun k => ok.has _ (.inl k)) fun k => ok.has _ (.inr k)
theorem g_start {A : Around} {code it : Value} {h5 : Heap} {tk : Nat} {G5 : Array GenState} {a : Addr} {go : Obj} (I : Inv X pins σ H s) (S : GScp X.env.scope scope X.N x) (hd : A.handled = none) (hfr : A.frames = some X.stack) (hfp : ∀ b ∈ fp, FpOk X pins H b) (hlt : ∀ b ∈ fp, b < s.heap.objs.size)
    (hns : h5.Ns s.heap.objs.size fun y => if y = ".0" then some it else none) (kp : ∀ b o, s.heap.get? b = some o → h5.get? b = some o) (hb : AllBare G5) (ha : h5.get? a = some go) (hap : s.heap.objs.size < a) (hgo : ∀ v, go.data ≠ .cell v) :
    Inv (gCx X A x scope fp s H code) [(a, go)] (σ ++ [none]) H { s with heap := h5, gens := G5, toks := tk } := by
  have hfree := S.has I.ok
  have back : ∀ {y c}, (cloFrom X.env.cells scope.names []).lookup y = some c → X.env.cells.lookup y = some c := fun {y c} e => by
    rcases cloFrom_mem (PySem.mem_of_lookup e) with hm | ⟨h1, h2⟩
    · cases hm
    · obtain ⟨c1, hc⟩ := hfree _ h1 rfl
      have hc : X.env.cells.lookup y = some c1 := hc
      have e2 : c = c1 := by rw [h2, hc] <;> rfl
      rw [e2]; exact hc
  have look : ∀ {y}, scope.names.lookup y = some .free → ∃ c, (cloFrom X.env.cells scope.names []).lookup y = some c := fun {y} hl =>
    mem_lookup (cloFrom_has (cells := X.env.cells) (acc := []) (PySem.mem_of_lookup hl : (y, NameKind.free) ∈ scope.names))
  have cellK : ∀ {c : Addr} {v : Option Value}, s.heap.IsCell c v → h5.IsCell c v := fun {c v} ⟨o, ho, hd⟩ => ⟨o, kp _ _ ho, hd⟩
  have nofs : ∀ b ∈ fp, b ∉ frs X.stack := fun b hb z => by
    obtain ⟨_, q1, q2, _⟩ := hfp b hb
    rcases List.mem_cons.mp (I.stkSub b z) with e | e
    · exact q1 e
    · exact q2 e
  have ltC : ∀ {c : Addr} {y : Str}, X.env.cells.lookup y = some c → c < s.heap.objs.size := fun {c y} e => by
    obtain ⟨v, q⟩ := I.cell y c e
    exact q.lt
  have aF : a ∉ frs X.stack := fun z => by
    rcases List.mem_cons.mp (I.stkSub a z) with e | e
    · have q := Nat.lt_trans I.lt hap
      rw [e] at q
      exact Nat.lt_irrefl _ q
    · exact I.nofs (Nat.le_of_lt hap) e
  have ok : (gCx X A x scope fp s H code).Ok :=
    { mod := I.ok.mod
      kind := S.kind
      glob := I.ok.glob
      blt := rfl
      above := Nat.le_refl _
      inj := fun y z c e1 e2 => I.ok.inj y z c (back e1) (back e2)
      has := fun y hy => by
        have hy : scope.names.lookup y = some .cell ∨ scope.names.lookup y = some .free := hy
        rcases hy with hy | hy
        · exact absurd rfl (S.cell _ (PySem.mem_of_lookup hy))
        · exact look hy
      cab := fun y c z _ => by
        have z : false = true := z
        cases z
      hd := fun _ => hd
      frames := Around.frames_deeper hfr
      stk := .inr ⟨rfl, rfl⟩
      exf := fun b hb => by
        obtain ⟨q0, q1, q2, q3, q4, q5⟩ := hfp b hb
        refine ⟨fun z => ?_, fun y c e => q4 y c (back e)⟩
        have z : b = s.heap.objs.size := z
        exact absurd (hlt b hb) (by rw [z]; exact Nat.lt_irrefl _)
      bs := I.bs
      bsz := Nat.le_trans I.ok.bsz I.sz
      noex := fun b o e hb => by
        obtain ⟨q0, q1, q2, q3, q4, q5⟩ := hfp b hb
        rcases q3 with q3 | q3
        · exact I.ok.noex b o e q3
        · exact absurd (Nat.lt_of_lt_of_le (Heap.lt_size e) (Nat.le_trans I.ok.bsz q3)) (Nat.lt_irrefl _)
      exfs := nofs
      funs := I.stack
      frf := I.stkFree }
  have slot : ∀ {i : Nat} {y : Str} {v : V}, (X.N ++ [x])[i]? = some y → (σ ++ [none])[i]? = some (some v) → X.N[i]? = some y ∧ σ[i]? = some (some v) := fun {i y v} e1 e2 => by
    have hl := I.len
    by_cases hi : i < σ.length
    · rw [List.getElem?_append_left hi] at e2
      rw [List.getElem?_append_left (by omega)] at e1
      exact ⟨e1, e2⟩
    · rw [List.getElem?_append_right (by omega)] at e2
      exact absurd e2 (by
        cases i - σ.length with
        | zero => simp
        | succ n => simp)
  refine { ok := ok, os := rfl, bare := hb, base := Un.kept kp, loc := ⟨_, hns, fun i y v e1 e2 e3 => ?_⟩, cell := fun y c e => ?_, free := I.hok.fresh (Nat.le_refl _), freeC := fun y c e => I.freeC y c (back e), pin := fun p hp => ?_, hok := I.hok.kept kp, len := ?_ }
  · obtain ⟨e1, e2⟩ := slot e1 e2
    have e3 : Vis scope y := e3
    rcases e3 with k | k | k
    · exact absurd k (S.own y (List.mem_of_getElem? e1))
    · exact absurd rfl (S.cell _ (PySem.mem_of_lookup k))
    · obtain ⟨m, hn, hl⟩ := I.loc
      have up := S.free _ (PySem.mem_of_lookup k) rfl
      obtain ⟨w', r, q⟩ := hl i y v e1 e2 (up.elim (fun k => .inr (.inl k)) fun k => .inr (.inr k))
      obtain ⟨c2, h2⟩ := look k
      refine ⟨w', r, .inr ⟨.inr k, c2, h2, ?_⟩⟩
      have c1 := back h2
      rcases q with ⟨k', _⟩ | ⟨_, c3, e', z⟩
      · have k' : X.env.scope.names.lookup y = some .local := k'
        rcases up with k2 | k2
        · rw [show X.env.scope.names.lookup y = some .cell from k2] at k'; cases k'
        · rw [show X.env.scope.names.lookup y = some .free from k2] at k'; cases k'
      · rw [c1] at e'
        cases e'
        exact cellK z
  · obtain ⟨w', z⟩ := I.cell y c (back e)
    exact ⟨w', cellK z⟩
  · have hp : p ∈ ([] : List (Addr × Obj)) ++ [(a, go)] := hp
    have hp : p = (a, go) := by simpa using hp
    subst hp
    exact ⟨ha, I.hok.fresh (Nat.le_of_lt hap), Nat.ne_of_gt hap, aF, hgo⟩
  · show (σ ++ [none]).length = (X.N ++ [x]).length
    simp [I.len]
end
abbrev gExp (x : Str) (p1 px : Pos) (iter test : Expr) (scope : Scope) (pos : Pos) : Expr := .GeneratorExp (.Name x p1) [⟨.Name x px, iter, [test], 0⟩] scope pos
theorem over_gen {A : Around} {x : Str} {p1 px : Pos} {iter test : Expr} {scope : Scope} {pos : Pos} {it acc : Value} {env : Env} :
    A.over (.compLoop (gExp x p1 px iter test scope pos) 0 it acc env) [] = A.deeper env := by
  first
    | rfl
    | (obtain ⟨hd, d, fr, gs, u⟩ := A; simp [Around.over, Around.deeper, marksOver, frameCount, unitsOf, envsOf, guardsOf, pushEnvs, pushGuards, Code.envs, Code.env?, Code.isFrame, Code.guards, Code.isGuard, Code.weight, Code.frames, Code.isCreation, Code.isCaller, Code.cUnits])
section
variable {X : Cx} {pins : List (Addr × Obj)} {σ : L2.St} {fp : List Addr} {it : Addr} {tn : Nat → Heap → Prop} {J : It} {A : Around} {x : Str} {p1 px pos : Pos} {iter test : Expr} {scope : Scope} {tt : TT} {j : Nat}
theorem g_loop {Q : VK} {W : Nat → Nat → Hp → Prop} (hA : A.deeper X.env = X.A) (hc : X.calm = true) (hx : ∀ e s, ¬ X.xe e s) (T : Turn X.prog X.w X.K (.Name x px) J fp it tn) (hg : PG X (.Name x px) (gName j)) (ht : PT X test tt) (he : PE X (.Name x p1) (tVar j))
    (hco : X.env.scope.isCoroutine = false) (hfp : ∀ H' : Hp, ∀ b ∈ fp, H' b = none → FpOk X pins H' b) (hj : σ.length = j)
    (step : ∀ i m H, W i m H → (J.stop i H ∧ Q .non H) ∨ (J.go i H ∧ ∃ N : Hp → Prop, (∀ H', N H' → ∃ m', m' < m ∧ W (i + 1) m' H') ∧ ∀ y H', J.yld i H y H' → tt (σ ++ [some y]) H' fun b H'' => if b = true then Q y H'' else N H'')) :
    ∀ (m i n : Nat) (s₀ s : Shared) (o : Option V) (H : Hp), Inv X pins (σ ++ [o]) H s → tn i s.heap → (∀ b ∈ fp, H b = none) → W i m H →
      Seg (model X.prog X.w) A (fun _ _ r s1 => r = .ok .next ∧ ∃ σ' H', Inv X pins σ' H' s1 ∧ Q .non H') (fun _ _ v s1 _ => ∃ y σ' H', RelV y v ∧ Inv X pins σ' H' s1 ∧ Q y H') (n + 1) s₀
        (.compLoop (gExp x p1 px iter test scope pos) 0 (.ref it) .none X.env) ((model X.prog X.w).den (.compLoop (gExp x p1 px iter test scope pos) 0 (.ref it) .none X.env)) [] s := by
  intro m
  induction m using Nat.strongRecOn with
  | ind m ih =>
    intro i n s₀ s o H I st hn w
    have hov : A.over (.compLoop (gExp x p1 px iter test scope pos) 0 (.ref it) .none X.env) [] = X.A := over_gen.trans hA
    show Seg _ A _ _ _ s₀ _ ((compTurn (gExp x p1 px iter test scope pos) 0 (.ref it) .none X.env).onRaise (leaving X.env)) [] s
    rw [compTurn_gen, Sem.onRaise_eq_wrap]
    refine seg_bind_wrap (wpAny_standAt ?_)
    rcases step i m H w with ⟨stop, q⟩ | ⟨go, N, hN, turn⟩
    · refine seg_bind_wrap ?_
      rw [hov]
      refine thn (T.done X rfl rfl rfl hc i pins s (σ ++ [o]) H _ I (fun b hb => hfp H b hb (hn b hb)) st stop) fun r s1 hr => ?_
      obtain ⟨rfl, I1⟩ := hr
      exact seg_end (.ok .next) ⟨rfl, _, _, I1, q⟩
    · refine seg_bind_wrap ?_
      rw [hov]
      refine thn (T.item X rfl rfl rfl hc i pins s (σ ++ [o]) H _ I (fun b hb => hfp H b hb (hn b hb)) st go) fun r s1 hr => ?_
      obtain ⟨u, rfl, h2⟩ := hr
      refine seg_bind_wrap ?_
      rw [hov]
      refine thn h2 fun _ s2 hy => ?_
      obtain ⟨y, H2, I2, r2, y2, st2, hn2⟩ := hy
      have Ip := I2.pinned (fun b hb => hfp H2 b hb (hn2 b hb)) (T.obj _ _ st2)
      refine seg_bind_wrap ?_
      rw [hov]
      have hset : (σ ++ [o]).set j (some y) = σ ++ [some y] := by
        rw [← hj, List.set_append_right _ _ (Nat.le_refl _), Nat.sub_self]; rfl
      refine wpAny_mono (hg.run _ s2 (σ ++ [o]) H2 y u (fun σ' H' => σ' = σ ++ [some y] ∧ H' = H2) Ip r2 ⟨hset, rfl⟩) (fun _ s3 h3 => ?_) fun e s' z => absurd z (hx e s')
      obtain ⟨σ3, H3, I3, rfl, rfl⟩ := h3
      refine seg_bind_wrap ?_
      rw [hov]
      simp only [List.forIn_cons, List.forIn_nil, if_true]
      refine wpAny_bind (wpAny_bind (wpAny_mono (ht.run _ s3 _ H3 _ I3 (turn y H3 y2)) (fun b s4 h4 => wpAny_pure (wpAny_pure ?_)) fun e s' z => absurd z (hx e s')))
      obtain ⟨H4, I4, q4⟩ := h4
      cases b with
      | false =>
        rw [if_neg Bool.false_ne_true] at q4
        simp only [Bool.false_eq_true, if_false]
        obtain ⟨m', hm, w4⟩ := hN H4 q4
        refine seg_again rfl (ih m' hm (i + 1) n s₀ s4 (some y) H4 I4.unpinned ?_ ?_ w4)
        · exact T.keep _ _ _ st2 fun b hb ob e => (I4.pin (b, ob) (List.mem_append_right _ (List.mem_append_right _ (mem_pinsAt hb e)))).1
        · intro b hb
          obtain ⟨ob, e, _⟩ := T.obj _ _ st2 b hb
          exact (I4.pin (b, ob) (List.mem_append_right _ (List.mem_append_right _ (mem_pinsAt hb e)))).2.1
      | true =>
        rw [if_pos rfl] at q4
        simp only [if_true]
        have hyo : ∀ v, yieldOut X.env v = yieldValue v := fun v => by simp only [yieldOut, hco, Bool.false_eq_true, if_false]
        simp only [hyo]
        rw [Sem.bind_eq_wrap', Sem.bind_eq_wrap', Sem.wrap_wrap, Sem.wrap_wrap]
        refine seg_wrap ?_
        rw [hov]
        have hvar : (σ ++ [some y])[j]? = some (some y) := by rw [← hj]; simp
        refine wpAny_mono (he.run _ s4 _ H4 (fun v H' => v = y ∧ Q y H') I4 ⟨y, hvar, rfl, q4⟩) (fun v s5 h5 => ?_) fun e s' z => absurd z (hx e s')
        obtain ⟨y', H5, I5, r5, rfl, q5⟩ := h5
        exact seg_at (seg_yield rfl rfl rfl ⟨_, _, H5, r5, I5.unpinned, q5⟩)
end
/-- next(x for x in walked if test, None); P: the table of the def's code object -/
def tNextG (P : Addr) (wi : TI) (tt : TT) : TE := fun σ H Q => wi σ H fun J H1 => Tab P H1 ∧ ∀ H2, Ex H1 H2 → (∀ b, b ≠ P → H2 b = H1 b) → ∃ W : Nat → Nat → Hp → Prop, (∃ m, W 0 m H2) ∧ ∀ i m H, W i m H →
  (J.stop i H ∧ Q .non H) ∨ (J.go i H ∧ ∃ N : Hp → Prop, (∀ H', N H' → ∃ m', m' < m ∧ W (i + 1) m' H') ∧ ∀ y H', J.yld i H y H' → tt (σ ++ [some y]) H' fun b H'' => if b = true then Q y H'' else N H'')
theorem bare_push {G : Array GenState} {g : GenState} (h : AllBare G) (hg : g.bare = true) : AllBare (G.push g) := h.push hg
theorem call_next_gen {M : PySem.Program} {w : World} {A : Around} {E : Value → Shared → Prop} {s : Shared} {a : Addr} {g : Nat} {dflt : Value} {Q : Value → Shared → Prop} (hg : s.heap.IsGen a g)
    (h : wpAny (model M w) A.in1 (pyNext (.ref a)) (fun r s' => Q (r.getD dflt) s') E s) : wpAny (model M w) A (call (.builtin "next") [.ref a, dflt]) Q E s := by
  refine Calls.call_function_entry (by decide +kernel) (by decide +kernel) PySem.W.kdk_entry_next (PySem.W.kdk_args_next2 _ _) ?_
  unfold Builtin.«next»
  refine wpAny_bind (m := someArgs "next" 1 2 _) (wpAny_of_eq (a := [Value.ref a, dflt]) (by first | rfl | kernel_rfl!) ?_); dsimp only
  refine wpAny_bind (wpAny_specialOf (name := Str.ofString "__next__") hg.typeIs slot_gen_next.lookup ?_)
  refine wpAny_ite_split (fun z => absurd z (by decide)) (fun _ => ?_)
  exact wpAny_bind (wpAny_mono h (fun r s' q => wpAny_pure ⟨_, rfl, q⟩) fun _ _ z => z)
section
variable {X : Cx} {x : Str} {p p1 p2 px pos gpos : Pos} {iter test : Expr} {scope : Scope} {wi : TI} {tt : TT} {c P : Addr} {k j : Nat}
theorem pe_nextG (hr : Room (k + 1) X.A) (hcalm : X.calm = true) (hg : Gl X "next") (hm : X.mg "next" = none) (TB : LamX.TabB X.base X.mg c P) (hcode : X.env.code = .ref c) (S : GScp X.env.scope scope X.N x)
    (hi : PI X (.Name x px) iter wi) (hs : ∀ v, genFold iter X.env v = pure v)
    (ht : ∀ (A : Around) (fp : List Addr) (s : Shared) (H : Hp) (code : Value), Room k (A.deeper (gFrame X scope s.heap.objs.size code)) → PT (gCx X A x scope fp s H code) test tt)
    (hd : (x == ("__debug__" : Str)) = false := by decide) (hcd : (x == ("__classdict__" : Str)) = false := by decide)
    (he : starEach [gExp x p1 px iter test scope gpos, .Constant .none j p2] X.env = (false, eval (gExp x p1 px iter test scope gpos) X.env) :: starEach [.Constant .none j p2] X.env := by rfl) :
    PE X (.Call (.Name "next" p) [gExp x p1 px iter test scope gpos, .Constant .none j p2] [] pos) (tNextG P wi tt) := by
  refine ⟨fun pins s σ H Q I h => ?_⟩
  refine wpAny_Call_Name_kw (ld_blt I hg hm boot_next ?_)
  refine PyProof.Rows.callWith_builtin1 ?_ he (by rfl)
  rw [he]
  show wpAny _ _ (spliced ((false, eval (gExp x p1 px iter test scope gpos) X.env) :: backTo pos (starEach [.Constant .none j p2] X.env))) _ _ s
  refine Calls.spliced_cons (wpAny_GeneratorExp_make S.co (closure_ok (S.has I.ok)) S.cell S.dot S.kind (by have := hr.dp; omega) ?_ hs)
  refine thn (hi.run pins s σ H _ I h) fun xv s1 h1 => thn h1 fun itv s2 h2 => ?_
  obtain ⟨it, fp, tn, J, H2, rfl, I2, T, st2, f2, ⟨ps, hP, htr⟩, hq⟩ := h2
  refine ⟨I2.nolimit, ?_⟩
  have hPs : s2.heap.get? P = some { cls := .none, data := .fields ps } := I2.hok P _ hP
  have cd : PySem.W.CodeHd s2.heap c P := TB.code.keeps I2.bk
  have nfp : ∀ b ∈ fp, b ≠ P := fun b hb z => by
    have q := (f2 b hb).1
    rw [z, hP] at q; cases q
  have cont : ∀ (code : Value) (h3 : Heap) (tk : Nat) (more : Array Value), Heap.ExtBut P s2.heap h3 → h3.get? P = some { cls := .none, data := .fields (ps ++ more) } → TriplesOk (ps ++ more).toList →
      wpAny (model X.prog X.w) X.A (builtinsFor X.env.globals X.env.builtins) (fun bi s4 =>
        ∀ h', h'.Ns s4.heap.objs.size (fun y => if y = ".0" then some (.ref it) else none) → Heap.SameBut s4.heap.objs.size (s4.heap.push { cls := .type "frame", data := .dict #[] }) h' →
          wpAny (model X.prog X.w) X.A (spliced (backTo pos (starEach [.Constant .none j p2] X.env))) (fun vs s' => wpAny (model X.prog X.w) X.A (call (.builtin "next") (.ref h'.objs.size :: vs)) (EP X pins σ Q) X.xe s') X.xe
            { s4 with
              gens := s4.gens.push (.fresh (.compStart (gExp x p1 px iter test scope gpos) 0 (.ref it) .none (genEnv scope (cloFrom X.env.cells scope.names []) s4.heap.objs.size code bi X.env))),
              toks := s4.toks + 1 + 1 + 1,
              heap := h'.push { cls := .type "generator", data := .fields #[.int s4.gens.size 0, .str "<genexpr>" (s4.toks + 1), .str (X.env.qual ++ "<genexpr>") (s4.toks + 1 + 1)] } }) X.xe { s2 with heap := h3, toks := tk } := by
    intro code h3 tk more hx hP3 htr3
    obtain ⟨bm, ob, e1, e2, e3, e4, e5, e6, e7, e8⟩ := TB.bm
    have I4 : Inv X pins σ (upd H2 P (.tbl (ps ++ more))) { s2 with heap := h3, toks := tk } := GxR.inv_tab (g' := s2.gens) (d' := s2.drawn) (t' := tk) I2 hP (fun b o hb e => hx b o hb e) hP3 I2.bare
    refine wpAny_builtinsFor (m := X.mg) (by rw [I.ok.glob]; exact I4.ok.mod.glob.keeps I4.bk) e1 e2 (I4.bk _ _ e5) e6 e7 e8 ?_
    intro h' hns hsb
    refine Calls.spliced_cons (PyProof.Rows.Constant_none (k := j) (pos := p2) (Calls.spliced_nil ?_))
    have hP4 : ∀ b, b ≠ P → upd H2 P (.tbl (ps ++ more)) b = H2 b := fun b hb => upd_ne hb
    have f4 : ∀ b ∈ fp, FpOk X pins (upd H2 P (.tbl (ps ++ more))) b := fun b hb => ⟨by rw [hP4 b (nfp b hb)]; exact (f2 b hb).1, (f2 b hb).2⟩
    have st4 : tn 0 h3 := T.keep _ _ _ st2 fun b hb o e => hx b o (nfp b hb) e
    have lt4 : ∀ b ∈ fp, b < h3.objs.size := fun b hb => by
      obtain ⟨o, e, _⟩ := T.obj _ _ st4 b hb
      exact Heap.lt_size e
    have hsz : h'.objs.size = h3.objs.size + 1 := by rw [hsb.1, Heap.size_push]
    have keep' : ∀ b o, h3.get? b = some o → h'.get? b = some o := fun b o e => hsb.extBut b o (Nat.ne_of_lt (Heap.lt_size e)) (Heap.get?_push_of_some _ e)
    generalize hgo : ({ cls := .type "generator", data := .fields #[.int s2.gens.size 0, .str "<genexpr>" (tk + 1), .str (X.env.qual ++ "<genexpr>") (tk + 1 + 1)] } : Obj) = go
    have keep5 : ∀ b o, h3.get? b = some o → (h'.push go).get? b = some o := fun b o e => Heap.get?_push_of_some _ (keep' b o e)
    have hago : (h'.push go).get? h'.objs.size = some go := Heap.get?_push_size _ (by rw [← hgo]; rfl)
    have isg : (h'.push go).IsGen h'.objs.size s2.gens.size := ⟨_, _, _, hago, by rw [← hgo], by rw [← hgo], by rw [← hgo]⟩
    let X' := gCx X X.A.in1.in1 x scope fp { s2 with heap := h3, toks := tk } (upd H2 P (.tbl (ps ++ more))) code
    -- back from the generator's frame
    have back : ∀ (σ' : L2.St) (H' : Hp) (s1 : Shared) (G : Array GenState) (h6 : Heap), Inv X' [(h'.objs.size, go)] σ' H' s1 → AllBare G → (∀ b o, s1.heap.get? b = some o → h6.get? b = some o) →
        Inv X pins σ H' { s1 with gens := G, heap := h6 } := by
      intro σ' H' s1 G h6 J hG hk
      have ch : ∀ b ∈ fp, (b ∈ X.ex ∨ X.s_0.heap.objs.size ≤ b) ∧ b ≠ X.env.locals ∧ (∀ x c, X.env.cells.lookup x = some c → c ≠ b) ∧ ∀ p ∈ X.pn ++ pins, p.1 ≠ b := fun b hb => by
        obtain ⟨_, q1, q2, q3, q4, q5⟩ := f4 b hb
        exact ⟨q3, q1, q4, q5⟩
      have u : Un (frs X.stack) fp (upd H2 P (.tbl (ps ++ more))) H' h3 s1.heap := J.base
      have I6 := (I4.call (g' := G) (t' := s1.toks) (d' := s1.drawn) u J.hok hG ch).kept (h' := h6) (t' := s1.toks) hk
      have ho : s1.os = s2.os := J.os
      rw [show ({ s1 with gens := G, heap := h6 } : Shared) = { s2 with heap := h6, gens := G, drawn := s1.drawn, toks := s1.toks } from by rw [← ho]]
      exact I6
    have fpn : ∀ H' : Hp, ∀ b ∈ fp, H' b = none → FpOk X' [(h'.objs.size, go)] H' b := fun H' b hb hn => by
      obtain ⟨_, q1, q2, q3, q4, q5⟩ := f4 b hb
      refine ⟨hn, ?_, ?_, .inl hb, ?_, ?_⟩
      · exact Nat.ne_of_lt (lt4 b hb)
      · intro z
        rcases List.mem_cons.mp (I4.stkSub b z) with e | e
        · exact q1 e
        · exact q2 e
      · intro y c e
        have e : (cloFrom X.env.cells scope.names []).lookup y = some c := e
        rcases cloFrom_mem (PySem.mem_of_lookup e) with hm | ⟨h1, h2⟩
        · cases hm
        · obtain ⟨c1, hc⟩ := S.has I.ok _ h1 rfl
          have hc : X.env.cells.lookup y = some c1 := hc
          have e2 : c = c1 := by rw [h2, hc] <;> rfl
          rw [e2]; exact q4 y c1 hc
      · intro q hq
        have hq : q ∈ ([] : List (Addr × Obj)) ++ [(h'.objs.size, go)] := hq
        have hq : q = (h'.objs.size, go) := by simpa using hq
        rw [hq]
        exact Nat.ne_of_gt (show b < h'.objs.size from by rw [hsz]; exact Nat.lt_succ_of_lt (lt4 b hb))
    have hj : σ.length = X.N.length := I.len
    have PGn : PG X' (.Name x px) (gName X.N.length) := pg_name S.nd (show (X.N ++ [x])[X.N.length]? = some x by simp) (.inl S.loc) (.inr S.loc)
    have PEn : PE X' (.Name x p1) (tVar X.N.length) := pe_var (show (X.N ++ [x])[X.N.length]? = some x by simp) (.inl S.loc) hd hcd
    obtain ⟨W, ⟨m0, w0⟩, step⟩ := hq (upd H2 P (.tbl (ps ++ more))) ⟨fun a o e n => by rw [hP4 a (fun z => n ps (by rw [z, hP] at e; exact (Option.some.inj e).symm))]; exact e, fun a qs e => by
      by_cases z : a = P
      · refine ⟨_, by rw [z, upd_same], fun _ => htr3⟩
      · exact ⟨qs, by rw [hP4 a z]; exact e, fun t => t⟩⟩ hP4
    have hroom : Room k (X.A.in1.in1.deeper (gFrame X scope h3.objs.size code)) := ⟨hr.hd, by have := hr.dp; show X.A.depth + 1 + 3 * k + 5 < _; omega, by have := hr.un; show X.A.units + 1 + 1 + 3 + 16 * k + 200 < _; omega⟩
    have bareR : AllBare ((s2.gens.push (.fresh (.compStart (gExp x p1 px iter test scope gpos) 0 (.ref it) .none (gFrame X scope h3.objs.size code)))).setIfInBounds s2.gens.size .running) :=
      allBare_setGen (s := { s2 with gens := s2.gens.push (.fresh (.compStart (gExp x p1 px iter test scope gpos) 0 (.ref it) .none (gFrame X scope h3.objs.size code))) }) (bare_push I2.bare rfl) rfl
    have J0 := g_start (A := X.A.in1.in1) (code := code) (it := .ref it) (h5 := h'.push go) (tk := tk + 1 + 1 + 1) (a := h'.objs.size) (go := go) I4 S hr.hd I4.ok.frames f4 lt4 (hns.push _) keep5 bareR hago (by show h3.objs.size < _; omega) (by intro v z; rw [← hgo] at z; cases z)
    have loop := g_loop (X := X') (pins := [(h'.objs.size, go)]) (σ := σ) (A := X.A.in1.in1) (p1 := p1) (pos := gpos) (iter := iter) (scope := scope) (Q := Q) rfl rfl (fun _ _ z => z) T PGn (ht _ _ _ _ _ hroom) PEn S.co fpn hj step m0 0 0
    have st5 : tn 0 (h'.push go) := T.keep _ _ _ st4 fun b hb o e => keep5 b o e
    have loop2 := fun s0 => loop s0 _ none _ J0 st5 (fun b hb => (f4 b hb).1) w0
    refine call_next_gen (g := s2.gens.size) isg ?_
    refine wpAny_pyNext_genexpQ (n := 1) (gs := .fresh (.compStart (gExp x p1 px iter test scope gpos) 0 (.ref it) .none (gFrame X scope h3.objs.size code))) (P := fun _ _ s1 => ∃ σ' H', Inv X' [(h'.objs.size, go)] σ' H' s1 ∧ Q .non H')
      (Y := fun _ _ v s1 _ => ∃ y σ' H', RelV y v ∧ Inv X' [(h'.objs.size, go)] σ' H' s1 ∧ Q y H') hr.hd (I4.nolimit.keeps keep5) hr.depth isg (Array.getElem?_push_size ..) ⟨rfl, ?_⟩ (fun v s1 gs' hb hv => ?_) (fun s1 hv h6 hk => ?_)
    · show Seg _ _ _ _ _ _ _ ((compStart (gExp x p1 px iter test scope gpos) 0 (.ref it) .none (gFrame X scope h3.objs.size code)).onRaise (leaving (gFrame X scope h3.objs.size code))) [] _
      unfold compStart; rw [Sem.onRaise_eq_wrap]
      show Seg _ _ _ _ _ _ _ ((ask >>= _).wrap _ _ _ _) [] _
      refine seg_bind_wrap (wpAny_askSetting ?_)
      split
      · exact seg_again rfl (loop2 _)
      · first
          | exact seg_bind_wrap (wpAny_rule (seg_bind_wrap (wpAny_standAt (seg_bind_wrap (T.self _ 0 _ _ _ st5 (seg_again rfl (loop2 _)))))))
          | (refine seg_bind_wrap (wpAny_rule ?_); show Seg _ _ _ _ _ _ _ ((standAt iter.pos >>= _).wrap _ _ _ _) [] _; exact seg_bind_wrap (wpAny_standAt (seg_bind_wrap (T.self _ 0 _ _ _ st5 (seg_again rfl (loop2 _))))))
    · obtain ⟨y, σ', H', ry, J1, q⟩ := hv
      exact ⟨y, H', back σ' H' s1 _ s1.heap J1 (allBare_setGen J1.bare hb) (fun _ _ e => e), ry, q⟩
    · obtain ⟨σ', H', J1, q⟩ := hv
      exact ⟨.non, H', back σ' H' s1 _ h6 J1 (allBare_setGen J1.bare rfl) hk, rfl, q⟩
  cases hf : codeAmong gpos ps.toList with
  | none =>
    refine wpAny_genexprCodeX hcode (cd.code hPs htr) (cd.tab hPs) hf fun c' h' tk hx hge hlt hco' _ htab' _ => ?_
    obtain ⟨o1, vs, f1, tf, fl, tg, inF, tx, tt', op, _, _, _, _, _, _, _, _, _, htr', _⟩ := hco'
    exact cont _ h' tk _ hx htab'.2 htr'
  | some cv =>
    refine wpAny_genexprCode_hit hcode (cd.code hPs htr) hf ?_
    exact cont cv s2.heap s2.toks #[] (Heap.ExtBut.refl _ _) (by rw [Array.append_empty]; exact hPs) (by rw [Array.append_empty]; exact htr)
end
end UW
namespace UW
open PySem L2 Evl StX SlX ClX RZ
theorem cut_take {ns : List Int} {n : Nat} : cutD (ns.map Dt.int) none (some (n : Int)) = (ns.take n).map Dt.int := by rw [cutD_take, List.map_take]
theorem cut_drop {ns : List Int} {n : Nat} : cutD (ns.map Dt.int) (some (n : Int)) none = (ns.drop n).map Dt.int := by rw [cutD_drop, List.map_drop]
theorem cut_mid {ns : List Int} {n m : Nat} : cutD (ns.map Dt.int) (some (n : Int)) (some (m : Int)) = ((ns.take m).drop n).map Dt.int := by rw [cutD_mid, List.map_drop, List.map_take]
theorem succ_int (n : Nat) : (n : Int) + 1 = ((n + 1 : Nat) : Int) := by omega
theorem add_int' (n m : Nat) : (n : Int) + (m : Int) = ((n + m : Nat) : Int) := by omega
theorem gd_get0 (x : Gd) : ([.int x.a, .int x.b] : List Dt)[0]? = some (.int x.a) := rfl
section
variable {P : Program} {w : World} {K : PySem.W.Frag} {mg : Str → Option Value} {base : Heap} {C : Addr}
section
variable {σ : L2.St} {H : Hp} {ta : TA} {te : TE}
theorem evn_enuG {m n : Nat} {fs r : List Gd} (g : Gd → Gd → Int) (hl : fs.length = r.length) (hz : r.length < 100) (h3 : EvDs K C ta σ H [rowD fs])
    (hw : ∀ x y : V, wipe (((wipe σ [m, n]).set m (some x)).set n (some y)) [m, n] = wipe σ [m, n])
    (hs : ∀ (k : Nat) (f x : Gd) (vx vy : V) (H1 : Hp), fs[k]? = some f → r[k]? = some x → Ex H H1 → Tp K C H1 vx (.int (k : Int)) → Tp K C H1 vy (gdD f) → EvD K C te (((wipe σ [m, n]).set m (some vx)).set n (some vy)) H1 (.int (g f x))) :
    EvN K C (tLc (iEnumT K ta) (gTup K 2 (gCons (gName m) (gCons (gName n) gNil))) tYes te [m, n]) σ H ((List.zipWith g fs r).map Dt.int) := by
  refine evn_lc2 (ds := enuD (fs.map gdD)) (f := fun k => (.int (k : Int), gdD (fs.getD k 0))) (evi_enuT h3) (by unfold enuD; simp [hl]) (by unfold enuD; simp; omega) noLs_ints hw (fun k d hd => ?_) fun k e vx vy H1 hk he e1 tx ty => ?_
  · unfold enuD at hd
    rw [List.getElem?_mapIdx, List.getElem?_map] at hd
    cases h : fs[k]? with
    | none => rw [h] at hd; simp at hd
    | some f =>
      rw [h] at hd
      simp only [Option.map_some, Option.some.injEq] at hd
      rw [← hd]
      simp [h]
  · have hk' : k < r.length := by simpa [hl] using hk
    have e1' : fs[k]? = some (fs[k]'(by omega)) := List.getElem?_eq_getElem _
    have e2' : r[k]? = some (r[k]'hk') := List.getElem?_eq_getElem _
    rw [List.getElem?_map, List.getElem?_zipWith, e1', e2'] at he
    simp only [Option.map_some, Option.some.injEq] at he
    subst he
    have : fs.getD k 0 = fs[k]'(by omega) := by simp [e1']
    rw [this] at ty
    exact hs k _ _ vx vy H1 e1' e2' e1 tx ty
end
/-! led_row -/
abbrev s_led_row : Stmt := topS 13
theorem sc_led_row : FnScope ["system", "letter", "row", "factors", "size", "whole", "at", "factor", "high", "part"] ["system", "letter", "row"] (defScope s_led_row) := ⟨rfl, rfl, rfl, by decide +kernel, rfl, by decide +kernel, by decide +kernel⟩
def R_led_row (ds : List Dt) (d : Dt) : Prop := ∃ (S : Sy) (l : Nat) (r : List Gd), ds = [.sys S, .int (l : Int), rowP S.golden r] ∧ SyOk S ∧ l < S.n ∧ RowOk S.golden S.n r ∧ d = rowP S.golden (ledL S.F l r)
abbrev sp_led_row (K : PySem.W.Frag) (C : Addr) : Sp := spP K C R_led_row
theorem ok_led_row {f : Addr} {fd : FuncData} (F : Fun K "led_row" "led_row" s_led_row f fd) (T : Bt mg) (Ts : TS0 K C) : FnOk P w K mg base CX0 1 f fd ["system", "letter", "row"] (sp_led_row K C) := by
  refine F.ok sc_led_row (spP_len (n := 3) fun ds d ⟨S, l, r, h, _⟩ => by rw [h]; rfl) fun cdv A outer s H vs Q E hr h => ?_
  obtain ⟨ds, d, al, ⟨S, l, r, rfl, hS, hl, hrow, rfl⟩, q⟩ := h
  obtain _ | ⟨t0, _ | ⟨t1, _ | ⟨t2, _ | _⟩⟩⟩ := al
  rename_i x0 x1 x2
  have nd := sc_led_row.nd
  refine ⟨_, pss_cons (ps_asg (pe_tup (pa_cons (pe_ix ix_tup (pe_sl (pv 0)) (pv 1) (fun _ _ => rfl)) (pa_cons (pe_sl (pv 0)) pa_nil))) (pg_tup rfl (pgs_cons (pg_name (i := 3) nd rfl (Or.inl rfl)) (pgs_cons (pg_name (i := 4) nd rfl (Or.inr rfl)) pgs_nil))))
    (pss_cons (ps_set (i := 5) nd rfl (Or.inl rfl) (pe_op op_add (pe_un un_neg (pe_ix ix_tup (pv 2) (pv 1) (fun _ _ => rfl))) (pe_callB (cr_sum rfl) (by rfl) T.sum (by decide +kernel) (pa_cons (pe_lc (own := [("at", 6), ("factor", 7)]) (g := (gTup K 2 (gCons (gName 6) (gCons (gName 7) gNil)))) (tt := tYes) (te := (tOp (rI CMul fun i j => .int (i * j)) (tOp (rIxT K) (tVar 7) (tC (.int 0))) (tOp (rIxT K) (tVar 2) (tVar 6)))) rfl nd (pi_enumT (by rfl) T.enumerate (pa_cons (pv 3) pa_nil)) (blkOk_by (own := [("at", 6), ("factor", 7)]) (N := ["system", "letter", "row", "factors", "size", "whole", "at", "factor", "high", "part"]) (sc := defScope s_led_row) (by decide +kernel)) (fun _ _ _ _ _ => (pg_tup rfl (pgs_cons (pg_name (i := 6) nd rfl (Or.inl rfl)) (pgs_cons (pg_name (i := 7) nd rfl (Or.inl rfl)) pgs_nil)))) (fun _ _ _ _ _ => pts_nil) (fun _ _ _ _ _ => (pe_op op_mul (pe_ix ix_tup (pv 7) pe_int (fun _ _ => rfl)) (pe_ix ix_tup (pv 2) (pv 6) (fun _ _ => rfl))))) pa_nil))))
    (pss_cons (ps_if (pt_not (pt_val (pe_sl (pv 0)))) (pss_one (ps_ret (pe_tup (pa_star (pe_slice sl_tupA (pv 2) po_none (po_some (pv 1))) (pa_cons (pv 5) (pa_star (pe_slice sl_tupA (pv 2) (po_some (pe_op op_add (pv 1) pe_int)) po_none) pa_nil)))))) (pss_nil))
    (pss_cons (ps_set (i := 8) nd rfl (Or.inl rfl) (pe_op op_add (pv 1) (pv 4)))
    (pss_cons (ps_aug (i := 5) nd rfl (Or.inl rfl) (pe_callB (cr_sum rfl) (by rfl) T.sum (by decide +kernel) (pa_cons (pe_lc (own := [("at", 6), ("factor", 7)]) (g := (gTup K 2 (gCons (gName 6) (gCons (gName 7) gNil)))) (tt := tYes) (te := (tOp (rI CMul fun i j => .int (i * j)) (tOp (rIxT K) (tVar 7) (tC (.int 1))) (tOp (rIxT K) (tVar 2) (tOp (rI0 fun i j => .int (i + j)) (tVar 6) (tVar 4))))) rfl nd (pi_enumT (by rfl) T.enumerate (pa_cons (pv 3) pa_nil)) (blkOk_by (own := [("at", 6), ("factor", 7)]) (N := ["system", "letter", "row", "factors", "size", "whole", "at", "factor", "high", "part"]) (sc := defScope s_led_row) (by decide +kernel)) (fun _ _ _ _ _ => (pg_tup rfl (pgs_cons (pg_name (i := 6) nd rfl (Or.inl rfl)) (pgs_cons (pg_name (i := 7) nd rfl (Or.inl rfl)) pgs_nil)))) (fun _ _ _ _ _ => pts_nil) (fun _ _ _ _ _ => (pe_op op_mul (pe_ix ix_tup (pv 7) pe_int (fun _ _ => rfl)) (pe_ix ix_tup (pv 2) (pe_op op_add (pv 6) (pv 4)) (fun _ _ => rfl))))) pa_nil)) ip_add)
    (pss_cons (ps_set (i := 9) nd rfl (Or.inl rfl) (pe_op op_add (pe_un un_neg (pe_ix ix_tup (pv 2) (pv 8) (fun _ _ => rfl))) (pe_callB (cr_sum rfl) (by rfl) T.sum (by decide +kernel) (pa_cons (pe_lc (own := [("at", 6), ("factor", 7)]) (g := (gTup K 2 (gCons (gName 6) (gCons (gName 7) gNil)))) (tt := tYes) (te := (tOp (rI CMul fun i j => .int (i * j)) (tOp (rIxT K) (tVar 7) (tC (.int 0))) (tOp (rIxT K) (tVar 2) (tOp (rI0 fun i j => .int (i + j)) (tVar 6) (tVar 4))))) rfl nd (pi_enumT (by rfl) T.enumerate (pa_cons (pv 3) pa_nil)) (blkOk_by (own := [("at", 6), ("factor", 7)]) (N := ["system", "letter", "row", "factors", "size", "whole", "at", "factor", "high", "part"]) (sc := defScope s_led_row) (by decide +kernel)) (fun _ _ _ _ _ => (pg_tup rfl (pgs_cons (pg_name (i := 6) nd rfl (Or.inl rfl)) (pgs_cons (pg_name (i := 7) nd rfl (Or.inl rfl)) pgs_nil)))) (fun _ _ _ _ _ => pts_nil) (fun _ _ _ _ _ => (pe_op op_mul (pe_ix ix_tup (pv 7) pe_int (fun _ _ => rfl)) (pe_ix ix_tup (pv 2) (pe_op op_add (pv 6) (pv 4)) (fun _ _ => rfl))))) pa_nil))))
    (pss_cons (ps_aug (i := 9) nd rfl (Or.inl rfl) (pe_callB (cr_sum rfl) (by rfl) T.sum (by decide +kernel) (pa_cons (pe_lc (own := [("at", 6), ("factor", 7)]) (g := (gTup K 2 (gCons (gName 6) (gCons (gName 7) gNil)))) (tt := tYes) (te := (tOp (rI CMul fun i j => .int (i * j)) (tOp (rIxT K) (tVar 7) (tC (.int 1))) (tOp (rI0 fun i j => .int (i + j)) (tOp (rIxT K) (tVar 2) (tVar 6)) (tOp (rIxT K) (tVar 2) (tOp (rI0 fun i j => .int (i + j)) (tVar 6) (tVar 4)))))) rfl nd (pi_enumT (by rfl) T.enumerate (pa_cons (pv 3) pa_nil)) (blkOk_by (own := [("at", 6), ("factor", 7)]) (N := ["system", "letter", "row", "factors", "size", "whole", "at", "factor", "high", "part"]) (sc := defScope s_led_row) (by decide +kernel)) (fun _ _ _ _ _ => (pg_tup rfl (pgs_cons (pg_name (i := 6) nd rfl (Or.inl rfl)) (pgs_cons (pg_name (i := 7) nd rfl (Or.inl rfl)) pgs_nil)))) (fun _ _ _ _ _ => pts_nil) (fun _ _ _ _ _ => (pe_op op_mul (pe_ix ix_tup (pv 7) pe_int (fun _ _ => rfl)) (pe_op op_add (pe_ix ix_tup (pv 2) (pv 6) (fun _ _ => rfl)) (pe_ix ix_tup (pv 2) (pe_op op_add (pv 6) (pv 4)) (fun _ _ => rfl)))))) pa_nil)) ip_add)
    (pss_one (ps_ret (pe_tup (pa_star (pe_slice sl_tupA (pv 2) po_none (po_some (pv 1))) (pa_cons (pv 5) (pa_star (pe_slice sl_tupA (pv 2) (po_some (pe_op op_add (pv 1) pe_int)) (po_some (pv 8))) (pa_cons (pv 9) (pa_star (pe_slice sl_tupA (pv 2) (po_some (pe_op op_add (pv 8) pe_int)) po_none) pa_nil)))))))))))))), ?_⟩
  have hn4 := hS.n4
  have hlF : l < S.F.length := by rw [hS.wf.len]; exact hl
  obtain ⟨fs, hfs⟩ : ∃ fs, S.F[l]? = some fs := ⟨_, List.getElem?_eq_getElem hlF⟩
  have hfD : S.F.getD l [] = fs := by simp [hfs]
  have hfm : fs ∈ S.F := List.mem_of_getElem? hfs
  have hfl : fs.length = r.length := by rw [← hfD, hS.wf.rows l hl, hrow.1]
  have hlr : l < r.length := by rw [hrow.1]; exact hl
  obtain ⟨xl, hxl⟩ : ∃ x, r[l]? = some x := ⟨_, List.getElem?_eq_getElem hlr⟩
  have hxD : r.getD l 0 = xl := by simp [hxl]
  have cm : ∀ (k : Nat) (f : Gd), fs[k]? = some f → (-(2 ^ 64) < f.a ∧ f.a < 2 ^ 64) ∧ (-(2 ^ 64) < f.b ∧ f.b < 2 ^ 64) := fun k f hf => by
    obtain ⟨a1, a2, a3, a4, _⟩ := hS.lo fs hfm f (List.mem_of_getElem? hf)
    exact ⟨⟨by omega, by omega⟩, ⟨by omega, by omega⟩⟩
  have ga : ∀ (k : Nat) (x : Gd), r[k]? = some x → ((rowI S.golden r).map Dt.int)[k]? = some (Dt.int x.a) := fun k x hx => by rw [List.getElem?_map, rowI_get_a S.golden hx]; rfl
  refine do_seq (do_two (K := K) (C := C) (dx := rowD fs) (dy := .int (S.n : Int)) (evd_tup (eds_cons (evd_ixT (n := l) (evd_factors Ts (evd_var rfl t0)) (evd_var rfl t1) rfl (by rw [List.getElem?_map, hfs]; rfl)) (eds_cons (evd_letters Ts (evd_var rfl t0)) eds_nil)) (by simp)) fun x3 x4 H1 e1 t3 t4 => ?_)
  have u0 := t0.ex e1
  have u1 := t1.ex e1
  have u2 := t2.ex e1
  have hz : r.length < 100 := by rw [hrow.1]; omega
  refine do_seq (do_set (K := K) (C := C) (evd_add (evd_neg (evd_ixT (n := l) (evd_var rfl u2) (evd_var rfl u1) rfl (ga l xl hxl))) (evd_sum (evn_enuG (fs := fs) (r := r) (fun f x => f.a * x.a) hfl hz (eds_cons (evd_var rfl t3) eds_nil) (fun _ _ => rfl)
    fun k f x vx vy H2 hf hx e2 tx ty => evd_mul (evd_ixT (n := 0) (evd_var rfl ty) evd_int rfl rfl) (evd_ixT (n := k) (evd_var rfl (u2.ex e2)) (evd_var rfl tx) rfl (ga k x hx)) (.inl (cm k f hf).1)))) fun x5 H2 e2 t5 => ?_)
  refine do_seq (do_if (et_not (evt_B (evd_golden Ts (evd_var rfl (u0.ex e2))))) (fun hg H3 e3 => ?_) fun hg H3 e3 => ?_)
  · have hg : S.golden = false := by simpa using hg
    have v1 := (u1.ex e2).ex e3
    have v2 := (u2.ex e2).ex e3
    refine do_ret (K := K) (C := C) (d := rowP S.golden (ledL S.F l r)) (EvD.to (evd_tup (eds_star (evd_sl (evd_var rfl v2) evp_none (evp_some (evd_var rfl v1))) (eds_cons (evd_var rfl (t5.ex e3)) (eds_star (evd_sl (evd_var rfl v2) (evp_some (evd_add (evd_var rfl v1) evd_int)) evp_none) eds_nil))) ?_) ?_) fun v H4 e4 t => q v H4 (((e1.trans e2).trans e3).trans e4) t
    · rw [succ_int, cut_take, cut_drop]
      simp only [List.length_append, List.length_cons, List.length_nil, List.length_map, List.length_take, List.length_drop, rowI_len]
      split <;> omega
    · rw [succ_int, cut_take, cut_drop]
      unfold rowP
      congr 1
      unfold ledL
      rw [hg, rowI_set_f hlr, hfD, hxD]
      have e := (dot_ng fs r (hS.ng hg fs hfm) (hrow.2 hg)).1
      simp only [List.map_append, List.map_cons, List.append_nil, Gd.add_a, Gd.neg_a, e]
  · have hg : S.golden = true := by simpa using hg
    have v1 := (u1.ex e2).ex e3
    have v2 := (u2.ex e2).ex e3
    have v3 := (t3.ex e2).ex e3
    have v4 := (t4.ex e2).ex e3
    have v5 := t5.ex e3
    rw [hg] at v2
    have gb : ∀ (k : Nat) (x : Gd), r[k]? = some x → ((rowI true r).map Dt.int)[k + S.n]? = some (Dt.int x.b) := fun k x hx => by rw [List.getElem?_map, ← hrow.1, rowI_get_b hx]; rfl
    rw [hg] at ga
    refine do_seq (do_set (K := K) (C := C) (evd_add (evd_var rfl v1) (evd_var rfl v4)) fun x8 H4 e4 t8 => ?_)
    refine do_seq (do_augI (K := K) (C := C) rfl (v5.ex e4) (evd_sum (evn_enuG (fs := fs) (r := r) (fun f x => f.b * x.b) hfl hz (eds_cons (evd_var rfl (v3.ex e4)) eds_nil) (fun _ _ => rfl)
      fun k f x vx vy H5 hf hx e5 tx ty => evd_mul (evd_ixT (n := 1) (evd_var rfl ty) evd_int rfl rfl) (evd_ixT (n := k + S.n) (evd_var rfl ((v2.ex e4).ex e5)) (evd_add (evd_var rfl tx) (evd_var rfl ((v4.ex e4).ex e5))) (by omega) (gb k x hx)) (.inl (cm k f hf).2))) fun x5' H5 e5 t5' => ?_)
    have e45 := e4.trans e5
    refine do_seq (do_set (K := K) (C := C) (evd_add (evd_neg (evd_ixT (n := l + S.n) (evd_var rfl (v2.ex e45)) (evd_var rfl (t8.ex e5)) (by omega) (gb l xl hxl))) (evd_sum (evn_enuG (fs := fs) (r := r) (fun f x => f.a * x.b) hfl hz (eds_cons (evd_var rfl (v3.ex e45)) eds_nil) (fun _ _ => rfl)
      fun k f x vx vy H6 hf hx e6 tx ty => evd_mul (evd_ixT (n := 0) (evd_var rfl ty) evd_int rfl rfl) (evd_ixT (n := k + S.n) (evd_var rfl ((v2.ex e45).ex e6)) (evd_add (evd_var rfl tx) (evd_var rfl ((v4.ex e45).ex e6))) (by omega) (gb k x hx)) (.inl (cm k f hf).1)))) fun x9 H6 e6 t9 => ?_)
    have e46 := e45.trans e6
    refine do_seq (do_augI (K := K) (C := C) rfl t9 (evd_sum (evn_enuG (fs := fs) (r := r) (fun f x => f.b * (x.a + x.b)) hfl hz (eds_cons (evd_var rfl (v3.ex e46)) eds_nil) (fun _ _ => rfl)
      fun k f x vx vy H7 hf hx e7 tx ty => evd_mul (evd_ixT (n := 1) (evd_var rfl ty) evd_int rfl rfl) (evd_add (evd_ixT (n := k) (evd_var rfl ((v2.ex e46).ex e7)) (evd_var rfl tx) rfl (ga k x hx)) (evd_ixT (n := k + S.n) (evd_var rfl ((v2.ex e46).ex e7)) (evd_add (evd_var rfl tx) (evd_var rfl ((v4.ex e46).ex e7))) (by omega) (gb k x hx))) (.inl (cm k f hf).2))) fun x9' H7 e7 t9' => ?_)
    have e47 := e46.trans e7
    have y1 := v1.ex e47
    have y2 := v2.ex e47
    have y8 := ((t8.ex e5).ex e6).ex e7
    have y5 := (t5'.ex e6).ex e7
    rw [add_int'] at y8
    refine do_ret (K := K) (C := C) (d := rowP S.golden (ledL S.F l r)) (EvD.to (evd_tup (eds_star (evd_sl (evd_var rfl y2) evp_none (evp_some (evd_var rfl y1))) (eds_cons (evd_var rfl y5) (eds_star (evd_sl (evd_var rfl y2) (evp_some (evd_add (evd_var rfl y1) evd_int)) (evp_some (evd_var rfl y8)))
      (eds_cons (evd_var rfl t9') (eds_star (evd_sl (evd_var rfl y2) (evp_some (evd_add (evd_var rfl y8) evd_int)) evp_none) eds_nil))))) ?_) ?_) fun v H8 e8 t => q v H8 ((((e1.trans e2).trans e3).trans e47).trans e8) t
    · rw [succ_int, succ_int, cut_take, cut_drop, cut_mid]
      simp only [List.length_append, List.length_cons, List.length_nil, List.length_map, List.length_take, List.length_drop, rowI_len, if_true]
      omega
    · rw [succ_int, succ_int, cut_take, cut_drop, cut_mid]
      unfold rowP
      congr 1
      unfold ledL
      rw [hg, rowI_set_t hlr, hfD, hxD, hrow.1]
      have ea := dot_a fs r
      have eb := dot_b fs r
      simp only [List.map_append, List.map_cons, List.append_nil, Gd.add_a, Gd.add_b, Gd.neg_a, Gd.neg_b, ea, eb]
      congr 2
      · congr 1; omega
      · congr 2
        congr 1; omega
end
end UW
namespace UW
open PySem L2 Evl StX SlX ClX RZ
section
variable {P : Program} {w : World} {K : PySem.W.Frag} {mg : Str → Option Value} {base : Heap} {C : Addr}
section
variable {σ : L2.St} {H : Hp} {ta : TA} {te : TE}
theorem evn_zipG {α β : Type} {m n : Nat} {xs : List α} {ys : List β} (gx : α → Dt) (gy : β → Dt) (g : α → β → Dt) (hg : ∀ x y, noL (g x y) = true) (hz : xs.length < 100000) (h3 : EvDs K C ta σ H [.tup (xs.map gx), .tup (ys.map gy)])
    (hw : ∀ x y : V, wipe (((wipe σ [m, n]).set m (some x)).set n (some y)) [m, n] = wipe σ [m, n])
    (hs : ∀ (k : Nat) (x : α) (y : β) (vx vy : V) (H1 : Hp), xs[k]? = some x → ys[k]? = some y → Ex H H1 → Tp K C H1 vx (gx x) → Tp K C H1 vy (gy y) → EvD K C te (((wipe σ [m, n]).set m (some vx)).set n (some vy)) H1 (g x y)) :
    EvN K C (tLc (iZipA K ta) (gTup K 2 (gCons (gName m) (gCons (gName n) gNil))) tYes te [m, n]) σ H (List.zipWith g xs ys) := by
  refine evn_lc2 (ds := zipD (xs.map gx) (ys.map gy)) (f := fun k => (((xs.map gx).getD k .non), ((ys.map gy).getD k .non))) (evi_zipT h3) (by unfold zipD; simp) (by unfold zipD; simp; omega) ?_ hw (fun k d hd => ?_) fun k e vx vy H1 hk he e1 tx ty => ?_
  · rw [noLs_iff]
    intro d hd
    obtain ⟨k, hk⟩ := List.getElem?_of_mem hd
    rw [List.getElem?_zipWith] at hk
    cases h1 : xs[k]? with
    | none => rw [h1] at hk; simp at hk
    | some x =>
      cases h2 : ys[k]? with
      | none => rw [h1, h2] at hk; simp at hk
      | some y => rw [h1, h2] at hk; simp at hk; rw [← hk]; exact hg x y
  · unfold zipD at hd
    rw [List.getElem?_zipWith, List.getElem?_map, List.getElem?_map] at hd
    cases h1 : xs[k]? with
    | none => rw [h1] at hd; simp at hd
    | some x =>
      cases h2 : ys[k]? with
      | none => rw [h1, h2] at hd; simp at hd
      | some y =>
        rw [h1, h2] at hd
        simp only [Option.map_some, Option.some.injEq] at hd
        rw [← hd]
        simp [h1, h2]
  · rw [List.getElem?_zipWith] at he
    cases h1 : xs[k]? with
    | none => rw [h1] at he; simp at he
    | some x =>
      cases h2 : ys[k]? with
      | none => rw [h1, h2] at he; simp at he
      | some y =>
        rw [h1, h2] at he
        simp only [Option.some.injEq] at he
        subst he
        have q1 : (xs.map gx).getD k .non = gx x := by simp [h1]
        have q2 : (ys.map gy).getD k .non = gy y := by simp [h2]
        rw [q1] at tx
        rw [q2] at ty
        exact hs k x y vx vy H1 h1 h2 e1 tx ty
end
/-! times_s -/
abbrev s_times_s : Stmt := topS 14
theorem sc_times_s : FnScope ["size", "row", "whole", "part"] ["size", "row"] (defScope s_times_s) := ⟨rfl, rfl, rfl, by decide +kernel, rfl, by decide +kernel, by decide +kernel⟩
def R_times_s (ds : List Dt) (d : Dt) : Prop := ∃ (n : Nat) (r : List Gd), ds = [.int (n : Int), rowP true r] ∧ r.length = n ∧ n ≤ 4 ∧ d = rowP true (r.map Gd.ph)
abbrev sp_times_s (K : PySem.W.Frag) (C : Addr) : Sp := spP K C R_times_s
theorem ok_times_s {f : Addr} {fd : FuncData} (F : Fun K "times_s" "times_s" s_times_s f fd) (T : Bt mg) : FnOk P w K mg base CX0 1 f fd ["size", "row"] (sp_times_s K C) := by
  refine F.ok sc_times_s (spP_len (n := 2) fun ds d ⟨S, l, h, _⟩ => by rw [h]; rfl) fun cdv A outer s H vs Q E hr h => ?_
  obtain ⟨ds, d, al, ⟨n, r, rfl, hl, hn, rfl⟩, q⟩ := h
  obtain _ | ⟨t0, _ | ⟨t1, _ | _⟩⟩ := al
  rename_i x0 x1
  have nd := sc_times_s.nd
  refine ⟨_, pss_one (ps_ret (pe_tup (pa_star (pe_slice sl_tupA (pv 1) (po_some (pv 0)) po_none) (pa_star (pe_lc (own := [("whole", 2), ("part", 3)]) (g := (gTup K 2 (gCons (gName 2) (gCons (gName 3) gNil)))) (tt := tYes) (te := (tOp (rI0 fun i j => .int (i + j)) (tVar 2) (tVar 3))) rfl nd (pi_zipA (by rfl) T.zip (pa_cons (pv 1) (pa_cons (pe_slice sl_tupA (pv 1) (po_some (pv 0)) po_none) pa_nil))) (blkOk_by (own := [("whole", 2), ("part", 3)]) (N := ["size", "row", "whole", "part"]) (sc := defScope s_times_s) (by decide +kernel)) (fun _ _ _ _ _ => (pg_tup rfl (pgs_cons (pg_name (i := 2) nd rfl (Or.inl rfl)) (pgs_cons (pg_name (i := 3) nd rfl (Or.inl rfl)) pgs_nil)))) (fun _ _ _ _ _ => pts_nil) (fun _ _ _ _ _ => (pe_op op_add (pv 2) (pv 3)))) pa_nil)))), ?_⟩
  refine do_ret (K := K) (C := C) (d := rowP true (r.map Gd.ph)) (EvD.to (evd_tup (eds_star (evd_sl (evd_var rfl t1) (evp_some (evd_var rfl t0)) evp_none) (eds_starN (evn_zipG (xs := rowI true r) (ys := (rowI true r).drop n) Dt.int Dt.int (fun x y => Dt.int (x + y)) (fun _ _ => noL_int) (by rw [rowI_len]; simp; omega)
    (eds_cons (evd_var rfl t1) (eds_cons ((evd_sl (evd_var rfl t1) (evp_some (evd_var rfl t0)) evp_none).to (by rw [cut_drop])) eds_nil)) (fun _ _ => rfl) fun k x y vx vy H1 h1 h2 e1 tx ty => evd_add (evd_var rfl tx) (evd_var rfl ty)) eds_nil)) ?_) ?_) q
  · rw [cut_drop]
    simp only [List.length_append, List.length_cons, List.length_nil, List.length_map, List.length_zipWith, List.length_drop, rowI_len, if_true]
    omega
  · rw [cut_drop]
    unfold rowP
    rw [rowI_ph, hl, List.map_append, List.append_nil, List.map_zipWith]
/-! added_row -/
abbrev s_added_row : Stmt := topS 15
theorem sc_added_row : FnScope ["system", "row", "factor", "other", "whole", "part", "left", "right"] ["system", "row", "factor", "other"] (defScope s_added_row) := ⟨rfl, rfl, rfl, by decide +kernel, rfl, by decide +kernel, by decide +kernel⟩
def FOk (g : Bool) (f : Gd) : Prop := 0 ≤ f.a ∧ f.a ≤ 3 ∧ 0 ≤ f.b ∧ f.b ≤ 1 ∧ (f.b ≠ 0 → f.a = 0) ∧ (g = false → f.b = 0)
def R_added_row (ds : List Dt) (d : Dt) : Prop := ∃ (S : Sy) (r o : List Gd) (f : Gd), ds = [.sys S, rowP S.golden r, gdD f, rowP S.golden o] ∧ SyOk S ∧ RowOk S.golden S.n r ∧ RowOk S.golden S.n o ∧ FOk S.golden f ∧ d = rowP S.golden (List.zipWith (fun x y => x + f * y) r o)
abbrev sp_added_row (K : PySem.W.Frag) (C : Addr) : Sp := spP K C R_added_row
theorem ok_added_row {f : Addr} {fd : FuncData} (F : Fun K "added_row" "added_row" s_added_row f fd) (T : Bt mg) (Ts : TS0 K C) (c_times_s : Cl P w K mg base "times_s" 1 (sp_times_s K C)) : FnOk P w K mg base CX0 2 f fd ["system", "row", "factor", "other"] (sp_added_row K C) := by
  refine F.ok sc_added_row (spP_len (n := 4) fun ds d ⟨S, l, o, f, h, _⟩ => by rw [h]; rfl) fun cdv A outer s H vs Q E hr h => ?_
  obtain ⟨ds, d, al, ⟨S, r, o, f, rfl, hS, hrow, ho, hf, rfl⟩, q⟩ := h
  obtain _ | ⟨t0, _ | ⟨t1, _ | ⟨t2, _ | ⟨t3, _ | _⟩⟩⟩⟩ := al
  rename_i x0 x1 x2 x3
  have nd := sc_added_row.nd
  refine ⟨_, pss_cons (ps_asg (pv 2) (pg_tup rfl (pgs_cons (pg_name (i := 4) nd rfl (Or.inr rfl)) (pgs_cons (pg_name (i := 5) nd rfl (Or.inl rfl)) pgs_nil))))
    (pss_cons (ps_if (pt_cmpR op_ne (pv 5) pe_int (nomark _)) (pss_cons (ps_set (i := 3) nd rfl (Or.inl rfl) (pe_cl c_times_s (hr.mono (by decide)) rfl (pa_cons (pe_sl (pv 0)) (pa_cons (pv 3) pa_nil))))
    (pss_one (ps_set (i := 4) nd rfl (Or.inr rfl) (pv 5)))) (pss_nil))
    (pss_one (ps_ret (pe_ifExp (pt_cmpR op_eq (pv 4) pe_int (nomark _)) (pv 1) (pe_callTy call_tuple_of (by rfl) T.tuple (by decide +kernel) (pa_cons (pe_lc (own := [("left", 6), ("right", 7)]) (g := (gTup K 2 (gCons (gName 6) (gCons (gName 7) gNil)))) (tt := tYes) (te := (tOp (rI0 fun i j => .int (i + j)) (tVar 6) (tOp (rI CMul fun i j => .int (i * j)) (tVar 4) (tVar 7)))) rfl nd (pi_zipA (by rfl) T.zip (pa_cons (pv 1) (pa_cons (pv 3) pa_nil))) (blkOk_by (own := [("left", 6), ("right", 7)]) (N := ["system", "row", "factor", "other", "whole", "part", "left", "right"]) (sc := defScope s_added_row) (by decide +kernel)) (fun _ _ _ _ _ => (pg_tup rfl (pgs_cons (pg_name (i := 6) nd rfl (Or.inl rfl)) (pgs_cons (pg_name (i := 7) nd rfl (Or.inl rfl)) pgs_nil)))) (fun _ _ _ _ _ => pts_nil) (fun _ _ _ _ _ => (pe_op op_add (pv 6) (pe_op op_mul (pv 4) (pv 7))))) pa_nil)))))), ?_⟩
  have hn4 := hS.n4
  -- what the last statement gives
  have fin : ∀ (c : Int) (o' : List Gd) (x3' x5 : V) (x4 : V) (H1 : Hp), 0 ≤ c → c ≤ 3 → o'.length = S.n → Ex H H1 → Tp K C H1 x4 (.int c) → Tp K C H1 x3' (rowP S.golden o') →
      EvD K C (tIf (tTest (tOp rEq (tVar 4) (tC (V.int 0)))) (tVar 1) (tCB (fun xs H Q => ∃ p ys, xs = [.ref p] ∧ ((SqL K H p ys ∧ ∀ l, H l = none → Q (.ref l) (upd H l (.tup ys))) ∨ (SqT K H p ys ∧ Q (.ref p) H))) (tCons (tLc (iZipA K (tCons (tVar 1) (tCons (tVar 3) tNil))) (gTup K 2 (gCons (gName 6) (gCons (gName 7) gNil))) tYes (tOp (rI0 fun i j => V.int (i + j)) (tVar 6) (tOp (rI CMul fun i j => V.int (i * j)) (tVar 4) (tVar 7))) [6, 7]) tNil)))
        [some x0, some x1, some x2, some x3', some x4, some x5, none, none] H1 (rowP S.golden (List.zipWith (fun x y => x + (⟨c, 0⟩ : Gd) * y) r o')) := by
    intro c o' x3' x5 x4 H1 hc0 hc3 hlo e1 t4 t3'
    refine evd_if (b := decide (c = 0)) (evt_test (evd_eqI (evd_var rfl t4) evd_int)) (fun h => ?_) fun h => ?_
    · have hc : c = 0 := of_decide_eq_true h
      rw [hc, zip_zero hrow.1 hlo]
      exact evd_var rfl (t1.ex e1)
    · refine (evd_tuple (evn_zipG (xs := rowI S.golden r) (ys := rowI S.golden o') Dt.int Dt.int (fun x y => Dt.int (x + c * y)) (fun _ _ => noL_int) (by rw [rowI_len]; split <;> (rw [hrow.1]; omega))
        (eds_cons (evd_var rfl (t1.ex e1)) (eds_cons (evd_var rfl t3') eds_nil)) (fun _ _ => rfl) fun k x y vx vy H2 h1 h2 e2 tx ty =>
        evd_add (evd_var rfl tx) (evd_mul (evd_var rfl (t4.ex e2)) (evd_var rfl ty) (.inl ⟨by omega, by omega⟩)))).to ?_
      unfold rowP
      rw [rowI_zip hrow.1 hlo, List.map_zipWith]
  obtain ⟨f0, f1, f2, f3, f4, f5⟩ := hf
  refine do_seq (do_two (K := K) (C := C) (dx := .int f.a) (dy := .int f.b) (evd_var rfl t2) fun x4 x5 H1 e1 t4 t5 => ?_)
  refine do_seq (do_if (b := !decide (f.b = 0)) (evt_test (evd_neI (evd_var rfl t5) evd_int)) (fun hb H2 e2 => ?_) fun hb H2 e2 => ?_)
  · have hb : f.b ≠ 0 := by simpa using hb
    have hg : S.golden = true := by
      cases h : S.golden with
      | true => rfl
      | false => exact absurd (f5 h) hb
    have e12 := e1.trans e2
    have t3' : Tp K C H2 x3 (rowP true o) := by rw [← hg]; exact t3.ex e12
    refine do_seq (do_set (K := K) (C := C) (evd_call (eds_cons (evd_letters Ts (evd_var rfl (t0.ex e12))) (eds_cons (evd_var rfl t3') eds_nil)) ⟨S.n, o, rfl, ho.1, hn4, rfl⟩) fun x3' H3 e3 u3 => ?_)
    refine do_set (K := K) (C := C) (evd_var rfl ((t5.ex e2).ex e3)) fun x4' H4 e4 u4 => ?_
    rw [← hg] at u3
    refine do_ret (K := K) (C := C) (fin f.b (o.map Gd.ph) x3' x5 x4' H4 f2 (by omega) (by simp [ho.1]) ((e12.trans e3).trans e4) u4 (u3.ex e4)) fun v H5 e5 t => q v H5 (((e12.trans e3).trans e4).trans e5) ?_
    rw [zip_phi (f4 hb)]
    exact t
  · have hb : f.b = 0 := by simpa using hb
    have e12 := e1.trans e2
    refine do_ret (K := K) (C := C) (fin f.a o x3 x5 x4 H2 f0 f1 ho.1 e12 (t4.ex e2) (t3.ex e12)) fun v H5 e5 t => q v H5 (e12.trans e5) ?_
    rw [zip_int hb]
    exact t
/-! first_frame -/
abbrev s_first_frame : Stmt := topS 16
theorem sc_first_frame : FnScope ["system", "letter"] ["system"] (defScope s_first_frame) := ⟨rfl, rfl, rfl, by decide +kernel, rfl, by decide +kernel, by decide +kernel⟩
def R_first_frame (ds : List Dt) (d : Dt) : Prop := ∃ (S : Sy), ds = [.sys S] ∧ SyOk S ∧ d = frP S.golden (firstL S.n)
abbrev sp_first_frame (K : PySem.W.Frag) (C : Addr) : Sp := spP K C R_first_frame
theorem ok_first_frame {f : Addr} {fd : FuncData} (F : Fun K "first_frame" "first_frame" s_first_frame f fd) (T : Bt mg) (Ts : TS0 K C) (c_letter_row : Cl P w K mg base "letter_row" 1 (sp_letter_row K C)) : FnOk P w K mg base CX0 2 f fd ["system"] (sp_first_frame K C) := by
  refine F.ok sc_first_frame (spP_len (n := 1) fun ds d ⟨S, h, _⟩ => by rw [h]; rfl) fun cdv A outer s H vs Q E hr h => ?_
  obtain ⟨ds, d, al, ⟨S, rfl, hS, rfl⟩, q⟩ := h
  obtain _ | ⟨t0, _ | _⟩ := al
  have nd := sc_first_frame.nd
  refine ⟨_, pss_one (ps_ret (pe_callTy call_tuple_of (by rfl) T.tuple (by decide +kernel) (pa_cons (pe_lc (own := [("letter", 1)]) (g := (gName 1)) (tt := tYes) (te := (tCall (sp_letter_row K C) [] E0 (tCons (tVar 0) (tCons (tVar 1) tNil)))) rfl nd (pi_range1 (by rfl) T.range (pa_cons (pe_sl (pv 0)) pa_nil)) (blkOk_by (own := [("letter", 1)]) (N := ["system", "letter"]) (sc := defScope s_first_frame) (by decide +kernel)) (fun _ _ _ _ _ => (pg_name (i := 1) nd rfl (Or.inl rfl))) (fun _ _ _ _ _ => pts_nil) (fun _ _ _ _ _ => (pe_cl c_letter_row (hr.mono (by decide)) rfl (pa_cons (pv 0) (pa_cons (pv 1) pa_nil))))) pa_nil))), ?_⟩
  have hn4 := hS.n4
  refine do_ret (K := K) (C := C) (d := frP S.golden (firstL S.n)) (evd_tuple (evn_lc1 (ds := rngD 0 S.n) (evi_rng1 (eds_cons (evd_letters Ts (evd_var rfl t0)) eds_nil) (by omega)).w (by unfold firstL; simp [rngD_len]) (by rw [rngD_len]; omega) (noLs_map (fun _ => noL_rowP) _) (fun _ => rfl) ?_)) q
  intro k d e x H4 hd he e4 tx
  have hk : k < S.n := by
    have := (List.getElem?_eq_some_iff.mp hd).1
    rwa [rngD_len] at this
  rw [rngD_get hk, Int.zero_add] at hd
  cases hd
  unfold firstL at he
  rw [List.map_map, List.getElem?_map, List.getElem?_range hk] at he
  cases he
  exact evd_call (eds_cons (evd_var rfl (t0.ex e4)) (eds_cons (evd_var rfl tx) eds_nil)) ⟨S, k, rfl, hS, hk, rfl⟩
/-! frame_behind -/
abbrev s_frame_behind : Stmt := topS 17
theorem sc_frame_behind : FnScope ["system", "frame", "letter", "row"] ["system", "frame", "letter"] (defScope s_frame_behind) := ⟨rfl, rfl, rfl, by decide +kernel, rfl, by decide +kernel, by decide +kernel⟩
def R_frame_behind (ds : List Dt) (d : Dt) : Prop := ∃ (S : Sy) (st : List (List Gd)) (l : Nat), ds = [.sys S, frP S.golden st, .int (l : Int)] ∧ SyOk S ∧ FrOk S.golden S.n st ∧ l < S.n ∧ d = frP S.golden (behindL S.F l st)
abbrev sp_frame_behind (K : PySem.W.Frag) (C : Addr) : Sp := spP K C R_frame_behind
theorem ok_frame_behind {f : Addr} {fd : FuncData} (F : Fun K "frame_behind" "frame_behind" s_frame_behind f fd) (T : Bt mg) (c_led_row : Cl P w K mg base "led_row" 1 (sp_led_row K C)) : FnOk P w K mg base CX0 2 f fd ["system", "frame", "letter"] (sp_frame_behind K C) := by
  refine F.ok sc_frame_behind (spP_len (n := 3) fun ds d ⟨S, st, l, h, _⟩ => by rw [h]; rfl) fun cdv A outer s H vs Q E hr h => ?_
  obtain ⟨ds, d, al, ⟨S, st, l, rfl, hS, hst, hl, rfl⟩, q⟩ := h
  obtain _ | ⟨t0, _ | ⟨t1, _ | ⟨t2, _ | _⟩⟩⟩ := al
  have nd := sc_frame_behind.nd
  refine ⟨_, pss_one (ps_ret (pe_callTy call_tuple_of (by rfl) T.tuple (by decide +kernel) (pa_cons (pe_lc (own := [("row", 3)]) (g := (gName 3)) (tt := tYes) (te := (tCall (sp_led_row K C) [] E0 (tCons (tVar 0) (tCons (tVar 2) (tCons (tVar 3) tNil))))) rfl nd (pi_tup (pv 1)) (blkOk_by (own := [("row", 3)]) (N := ["system", "frame", "letter", "row"]) (sc := defScope s_frame_behind) (by decide +kernel)) (fun _ _ _ _ _ => (pg_name (i := 3) nd rfl (Or.inl rfl))) (fun _ _ _ _ _ => pts_nil) (fun _ _ _ _ _ => (pe_cl c_led_row (hr.mono (by decide)) rfl (pa_cons (pv 0) (pa_cons (pv 2) (pa_cons (pv 3) pa_nil)))))) pa_nil))), ?_⟩
  have hn4 := hS.n4
  refine do_ret (K := K) (C := C) (d := frP S.golden (behindL S.F l st)) (evd_tuple (evn_lc1 (ds := st.map (rowP S.golden)) (evi_tup (evd_var rfl t1)) (by unfold behindL; simp) (by simp [hst.1]; omega) (noLs_map (fun _ => noL_rowP) _) (fun _ => rfl) ?_)) q
  intro k d e x H4 hd he e4 tx
  unfold behindL at he
  rw [List.map_map, List.getElem?_map] at he
  rw [List.getElem?_map] at hd
  cases h1 : st[k]? with
  | none => rw [h1] at he; simp at he
  | some r =>
    rw [h1] at he hd
    cases hd
    cases he
    exact evd_call (eds_cons (evd_var rfl (t0.ex e4)) (eds_cons (evd_var rfl (t2.ex e4)) (eds_cons (evd_var rfl tx) eds_nil))) ⟨S, l, r, rfl, hS, hl, hst.2 r (List.mem_of_getElem? h1), rfl⟩
/-! is_left -/
abbrev s_is_left : Stmt := topS 20
theorem sc_is_left : FnScope ["system", "frame", "letter"] ["system", "frame", "letter"] (defScope s_is_left) := ⟨rfl, rfl, rfl, by decide +kernel, rfl, by decide +kernel, by decide +kernel⟩
def R_is_left (ds : List Dt) (d : Dt) : Prop := ∃ (S : Sy) (st : List (List Gd)) (l : Nat), ds = [.sys S, frP S.golden st, .int (l : Int)] ∧ SyOk S ∧ FrOk S.golden S.n st ∧ (∀ r ∈ st, smallR r) ∧ l < S.n ∧ d = .bl (lowRow (st.getD l []))
abbrev sp_is_left (K : PySem.W.Frag) (C : Addr) : Sp := spP K C R_is_left
theorem ok_is_left {f : Addr} {fd : FuncData} (F : Fun K "is_left" "is_left" s_is_left f fd) (T : Bt mg) (c_is_row_below : Cl P w K mg base "is_row_below" 2 (sp_is_row_below K C)) : FnOk P w K mg base CX0 3 f fd ["system", "frame", "letter"] (sp_is_left K C) := by
  refine F.ok sc_is_left (spP_len (n := 3) fun ds d ⟨S, st, l, h, _⟩ => by rw [h]; rfl) fun cdv A outer s H vs Q E hr h => ?_
  obtain ⟨ds, d, al, ⟨S, st, l, rfl, hS, hst, hsm, hl, rfl⟩, q⟩ := h
  obtain _ | ⟨t0, _ | ⟨t1, _ | ⟨t2, _ | _⟩⟩⟩ := al
  have nd := sc_is_left.nd
  refine ⟨_, pss_one (ps_ret (pe_cl c_is_row_below (hr.mono (by decide)) rfl (pa_cons (pv 0) (pa_cons (pe_ix ix_tup (pv 1) (pv 2) (fun _ _ => rfl)) pa_nil)))), ?_⟩
  have hlt : l < st.length := by rw [hst.1]; exact hl
  have hr' : st[l]? = some (st.getD l []) := by simp [hlt]
  have hm : st.getD l [] ∈ st := List.mem_of_getElem? hr'
  exact do_ret (K := K) (C := C) (evd_call (eds_cons (evd_var rfl t0) (eds_cons (evd_ixT (n := l) (evd_var rfl t1) (evd_var rfl t2) rfl (by rw [List.getElem?_map, hr']; rfl)) eds_nil)) ⟨S, _, rfl, hS, hst.2 _ hm, hsm _ hm, rfl⟩) q
/-! frame_of -/
abbrev s_frame_of : Stmt := topS 19
theorem sc_frame_of : FnScope ["system", "word", "frame", "letter"] ["system", "word"] (defScope s_frame_of) := ⟨rfl, rfl, rfl, by decide +kernel, rfl, by decide +kernel, by decide +kernel⟩
def R_frame_of (ds : List Dt) (d : Dt) : Prop := ∃ (S : Sy) (u : List Nat), ds = [.sys S, wordD u] ∧ SyOk S ∧ ok S.n u ∧ u.length ≤ 1000 ∧ d = frP S.golden (stateL S.n S.F u)
abbrev sp_frame_of (K : PySem.W.Frag) (C : Addr) : Sp := spP K C R_frame_of
theorem ok_frame_of {f : Addr} {fd : FuncData} (F : Fun K "frame_of" "frame_of" s_frame_of f fd) (T : Bt mg) (c_first_frame : Cl P w K mg base "first_frame" 2 (sp_first_frame K C)) (c_frame_behind : Cl P w K mg base "frame_behind" 2 (sp_frame_behind K C)) : FnOk P w K mg base CX0 3 f fd ["system", "word"] (sp_frame_of K C) := by
  refine F.ok sc_frame_of (spP_len (n := 2) fun ds d ⟨S, st, h, _⟩ => by rw [h]; rfl) fun cdv A outer s H vs Q E hr h => ?_
  obtain ⟨ds, d, al, ⟨S, u, rfl, hS, hu, hul, rfl⟩, q⟩ := h
  obtain _ | ⟨t0, _ | ⟨t1, _ | _⟩⟩ := al
  rename_i x0 x1
  have nd := sc_frame_of.nd
  refine ⟨_, pss_cons (ps_set (i := 2) nd rfl (Or.inl rfl) (pe_cl c_first_frame (hr.mono (by decide)) rfl (pa_cons (pv 0) pa_nil)))
    (pss_cons (ps_for PassesOwn.never rfl (pi_tup (pv 1)) (pg_name (i := 3) nd rfl (Or.inl rfl)) (pss_one (ps_set (i := 2) nd rfl (Or.inl rfl) (pe_cl c_frame_behind (hr.mono (by decide)) rfl (pa_cons (pv 0) (pa_cons (pv 2) (pa_cons (pv 3) pa_nil)))))))
    (pss_one (ps_ret (pv 2)))), ?_⟩
  refine do_seq (do_set (K := K) (C := C) (evd_call (eds_cons (evd_var rfl t0) eds_nil) ⟨S, rfl, hS, rfl⟩) fun x2 H1 e1 t2 => ?_)
  let Pv : Nat → L2.St → Hp → Prop := fun k σ H' => Ex H1 H' ∧ ∃ (x2 : V) (x3 : Option V), σ = [some x0, some x1, some x2, x3] ∧ Tp K C H' x2 (frP S.golden (stateL S.n S.F (u.take k)))
  refine do_seq (do_for (K := K) (C := C) (ds := u.map fun (a : Nat) => Dt.int (a : Int)) (evib_tup rfl (t1.ex e1)) (Ex.refl _) Pv (fun H2 e2 => ⟨e2, x2, none, rfl, t2.ex e2⟩) (fun k σ2 H2 p => p.1) ?_ ?_)
  · rintro k d x σ2 H2 H3 hd ⟨e2, x2', x3, rfl, t2'⟩ e3 tx
    rw [List.getElem?_map] at hd
    cases h1 : u[k]? with
    | none => rw [h1] at hd; simp at hd
    | some l =>
      rw [h1] at hd
      cases hd
      have hl : l < S.n := hu l (List.mem_of_getElem? h1)
      have hfo : ∀ (u : List Nat), ok S.n u → FrOk S.golden S.n (stateL S.n S.F u) := fun u => by
        have key : ∀ (u : List Nat) (st : List (List Gd)), ok S.n u → FrOk S.golden S.n st → FrOk S.golden S.n (u.foldl (fun st l => behindL S.F l st) st) := by
          intro u
          induction u with
          | nil => intro st _ h; exact h
          | cons l u ih => intro st hu h; exact ih _ hu.tail (behindL_ok hS hu.head h)
        exact fun hu => key u _ hu firstL_ok
      refine do_set (K := K) (C := C) (evd_call (eds_cons (evd_var rfl (((t0.ex e1).ex e2).ex e3)) (eds_cons (evd_var rfl (t2'.ex e3)) (eds_cons (evd_var rfl tx) eds_nil))) ⟨S, _, l, rfl, hS, hfo _ (fun a ha => hu a (List.mem_of_mem_take ha)), hl, rfl⟩) fun x2'' H4 e4 t4 => ?_
      refine ⟨(e2.trans e3).trans e4, x2'', some x, rfl, ?_⟩
      rw [List.take_add_one, h1]
      unfold stateL at *
      simpa using t4
  · rintro σ2 H2 ⟨e2, x2', x3, rfl, t2'⟩
    rw [List.length_map, List.take_length] at t2'
    exact do_ret (K := K) (C := C) (evd_var rfl t2') fun v H3 e3 t => q v H3 ((e1.trans e2).trans e3) t
end
end UW
namespace UW
open PySem PySem.Spec PyProof.Rows L2 Evl StX SlX ClX RZ
/-! more statements -/
section
variable {K : PySem.W.Frag} {C : Addr} {H H' : Hp} {σ : L2.St} {ta tb tc te : TE} {t : TA} {d dx dy dz : Dt} {ds es : List Dt} {i j : Int} {b : Bool} {D : Ends} {ts tu : TS} {tt : TT}
theorem TpAll.set {vs : List V} {l : Nat} {v : V} (al : TpAll K C H vs ds) (tv : Tp K C H v d) : TpAll K C H (vs.set l v) (ds.set l d) := by
  refine TpAll.of (by simp [al.length]) fun k x e h1 h2 => ?_
  rw [List.getElem?_set] at h1 h2
  have hl := al.length
  by_cases hk : l = k
  · rw [if_pos hk] at h1 h2
    split at h1
    · split at h2
      · cases h1; cases h2; exact tv
      · cases h2
    · cases h1
  · rw [if_neg hk] at h1 h2
    obtain ⟨e', q, tq⟩ := al.get' h1
    rw [q] at h2; cases h2; exact tq
theorem do_drop (h : EvD K C te σ H d) (q : ∀ v H', Ex H H' → Tp K C H' v d → D.nx σ H') : tDrop te D σ H := h H (Ex.refl _) _ q
theorem ex_lst {p : Addr} {xs : List V} (e : Ex H H') (h : H p = some (.lst xs)) : H' p = some (.lst xs) := e.all _ _ h fun ps z => by cases z
theorem do_app {n : Nat} {p : Addr} {xs : List V} (hv : σ[n]? = some (some (.ref p))) (hp : H p = some (.lst xs)) (h : EvD K C te σ H d) (hz : xs.length < 100000) (q : ∀ v H', Ex H H' → Tp K C H' v d → D.nx σ (upd H' p (.lst (xs ++ [v])))) :
    tDrop (tBM K "list" rAppend (tVar n) (tCons te tNil)) D σ H :=
  ⟨_, hv, .inl ⟨rfl, xs, sq_of hp⟩, h H (Ex.refl _) _ fun v H2 e2 tv => ⟨p, xs, v, rfl, rfl, ex_lst e2 hp, sz_lt hz, q v H2 e2 tv⟩⟩
theorem do_setL {n l : Nat} {p : Addr} {xs : List V} (hv : σ[n]? = some (some (.ref p))) (hp : H p = some (.lst xs)) (h : EvD K C te σ H d) (hi : EvD K C tb σ H (.int (l : Int))) (hl : l < xs.length) (q : ∀ v H', Ex H H' → Tp K C H' v d → D.nx σ (upd H' p (.lst (xs.set l v)))) :
    tAsg te (gSub (tVar n) tb rSetL) D σ H :=
  h H (Ex.refl _) _ fun v H2 e2 tv => ⟨_, hv, hi H2 e2 _ fun w H3 e3 tw => by
    cases tw
    exact ⟨p, xs, l, l, rfl, rfl, ex_lst (e2.trans e3) hp, ixN_nat hl, q v H3 (e2.trans e3) (tv.ex e3)⟩⟩
theorem do_while (W : Nat → L2.St → Hp → Prop) (m0 : Nat) (h0 : W m0 σ H)
    (hs : ∀ m σ' H', W m σ' H' → ∃ b, EvT tt σ' H' b ∧ (b = true → ∀ H1, Ex H' H1 → tu { D with nx := fun σ2 H2 => ∃ m', m' < m ∧ W m' σ2 H2, ct := fun σ2 H2 => ∃ m', m' < m ∧ W m' σ2 H2, bk := D.nx } σ' H1) ∧ (b = false → ∀ H1, Ex H' H1 → D.nx σ' H1)) : tWhile tt tu D σ H :=
  ⟨W, ⟨m0, h0⟩, fun m σ' H' hw => by
    obtain ⟨b, hb, h1, h2⟩ := hs m σ' H' hw
    refine hb H' (Ex.refl H') _ fun H1 e => ?_
    cases b with
    | true => exact iteT ⟨_, fun _ _ z => z, h1 rfl H1 e⟩
    | false => exact iteF (h2 rfl H1 e)⟩
theorem evt_notN {v : V} {n : Nat} (hv : σ[n]? = some (some v)) : EvT (tTest (tOp (fun x y H Q => y = .non ∧ Q (.bl (!decide (x = .non))) H) (tVar n) (tC .non))) σ H (!decide (v = .non)) := fun H1 e Q q =>
  ⟨v, hv, rfl, _, rfl, q H1 (Ex.refl _)⟩
end
/-! a def whose code object is told -/
structure FunC (K : PySem.W.Frag) (x qual : Str) (st : Stmt) (f : Addr) (fd : FuncData) (c : Addr) : Prop where
  ex : ∃ (oc : Value) (od : Option Addr) (kV doc pm : Value) (an : Option Addr) (ct : Value) (osl : Array (Option Value)),
    fd = PySem.W.fnOf x qual (defArgs st) (defBody st) (defScope st) .none kV doc pm an (.ref c) ct ∧ K.lookup f = some ⟨oc, od, .func fd, osl⟩ ∧ PySem.W.codeIn K (.ref c) qual = true
  kp : PySem.W.keepIn K (.ref f) = true
theorem FunC.fn {K : PySem.W.Frag} {x qual : Str} {st : Stmt} {f : Addr} {fd : FuncData} {c : Addr} (F : FunC K x qual st f fd c) : Fun K x qual st f fd :=
  ⟨by obtain ⟨oc, od, kV, doc, pm, an, ct, osl, h⟩ := F.ex; exact ⟨oc, od, kV, doc, pm, an, .ref c, ct, osl, h⟩, F.kp⟩
theorem FunC.ok {P : Program} {w : World} {K : PySem.W.Frag} {mg : Str → Option Value} {base : Heap} {x qual : Str} {st : Stmt} {f : Addr} {fd : FuncData} {N ps : List Str} {k : Nat} {sp : Sp} {c : Addr} (F : FunC K x qual st f fd c) (S : FnScope N ps (defScope st)) (len : ∀ vs H Q E, sp vs H Q E → vs.length = ps.length)
    (hbody : ∀ (A : Around) (outer : List Env) (s : Shared) (H : Hp) (vs : List V) (Q : VK) (E : XK), Room k (A.deeper (envOfC qual (defScope st) s.heap.objs.size f (.ref c))) → sp vs H Q E →
      ∃ t, PSs (cxOf CX0 P w K mg base N qual (defScope st) f (.ref c) A outer s H E).nox (defBody st) t ∧ t { nx := fun _ H' => Q .non H', rt := Q } (L2.start N vs) H) : FnOk P w K mg base CX0 (k + 1) f fd ps sp := by
  obtain ⟨oc, od, kV, doc, pm, an, ct, osl, rfl, lk, hcd⟩ := F.ex
  refine fn_of lk hcd S len fun A outer s H vs Q E hr hsp => ?_
  obtain ⟨t, h, q⟩ := hbody A outer s H vs Q E hr hsp
  exact ⟨t, h.nox, q⟩
/-! promises that want the table -/
def spT (P : Addr) (K : PySem.W.Frag) (C : Addr) (R : List Dt → Dt → Prop) : Sp := fun vs H Q E => Tab P H ∧ spP K C R vs H Q E
theorem spT_len {P : Addr} {K : PySem.W.Frag} {C : Addr} {R : List Dt → Dt → Prop} {n : Nat} (h : ∀ ds d, R ds d → ds.length = n) : ∀ vs H Q E, spT P K C R vs H Q E → vs.length = n := fun vs H Q E z => spP_len h vs H Q E z.2
section
variable {K : PySem.W.Frag} {C P : Addr} {H H' : Hp} {σ : L2.St} {ta tb tc te : TE} {t : TA} {d dx dy dz : Dt} {ds es : List Dt} {wi : TI} {tt : TT}
theorem evd_callT {R : List Dt → Dt → Prop} {E : XK} (tab : Tab P H) (h : EvDs K C t σ H ds) (r : R ds d) : EvD K C (tCall (spT P K C R) [] E t) σ H d := fun H1 e Q q =>
  h H1 e _ fun vs H2 e2 al => ⟨(tab.ex e).ex e2, ds, d, by rw [List.append_nil]; exact al, r, fun v H3 e3 tv => q v H3 (e2.trans e3) tv⟩
def fstD (o : Option Nat) : Dt := match o with
  | none => .non
  | some k => .int (k : Int)
theorem evd_nextG {n : Nat} (f : Nat → Bool) (tab : Tab P H) (hi : EvIb K C wi σ H (rngD 0 n)) (ht : ∀ (k : Nat) (x : V) (H1 : Hp), k < n → Ex H H1 → Tp K C H1 x (.int (k : Int)) → EvT tt (σ ++ [some x]) H1 (f k)) :
    EvD K C (tNextG P wi tt) σ H (fstD ((List.range n).find? f)) := fun H1 e1 Q q => hi H1 e1 _ fun J H2 e2 w => by
  refine ⟨(tab.ex e1).ex e2, fun H3 e3 _ => ⟨fun i m H' => m = n - i ∧ i ≤ n ∧ Ex H3 H' ∧ ∀ k, k < i → f k = false, ⟨n, by omega, by omega, Ex.refl _, fun k hk => by omega⟩, ?_⟩⟩
  rintro i m H' ⟨rfl, hin, e4, hf⟩
  have e24 := (e2.trans e3).trans e4
  have hl : (rngD 0 n).length = n := rngD_len
  by_cases hlt : i < n
  · refine .inr ⟨w.goes i H' (by omega) (e1.trans e24), fun H'' => i + 1 ≤ n ∧ Ex H3 H'' ∧ ∀ k, k < i + 1 → f k = false, fun H'' ⟨h1, h2, h3⟩ => ⟨n - (i + 1), by omega, rfl, h1, h2, h3⟩, fun y H5 hy => ?_⟩
    obtain ⟨e5, d, hd, ty⟩ := w.yields i H' y H5 (by omega) (e1.trans e24) hy
    rw [rngD_get hlt, Int.zero_add] at hd
    cases hd
    refine ht i y H5 hlt ((e1.trans e24).trans e5) ty H5 (Ex.refl _) _ fun H6 e6 => ?_
    cases hfi : f i with
    | true =>
      refine iteT (q y H6 ((e24.trans e5).trans e6) ?_)
      have : (List.range n).find? f = some i := by
        rw [List.find?_range_eq_some]
        exact ⟨hfi, List.mem_range.mpr hlt, fun k hk => by rw [hf k hk]; rfl⟩
      rw [this]
      exact ty.ex e6
    | false =>
      refine iteF ⟨hlt, (e4.trans e5).trans e6, fun k hk => ?_⟩
      by_cases hk' : k = i
      · rw [hk']; exact hfi
      · exact hf k (by omega)
  · have hin' : i = n := by omega
    subst hin'
    refine .inl ⟨by have := w.stops H' (e1.trans e24); rwa [hl] at this, q _ H' e24 ?_⟩
    have : (List.range i).find? f = none := by
      rw [List.find?_eq_none]
      intro k hk
      rw [hf k (List.mem_range.mp hk)]
      exact Bool.false_ne_true
    rw [this]
    exact .non
end
section
variable {P : Program} {w : World} {K : PySem.W.Frag} {mg : Str → Option Value} {base : Heap} {C : Addr}
/-! frame_ahead -/
abbrev s_frame_ahead : Stmt := topS 18
theorem sc_frame_ahead : FnScope ["system", "frame", "letter", "head", "factors", "found", "row", "factor", "number"] ["system", "frame", "letter"] (defScope s_frame_ahead) := ⟨rfl, rfl, rfl, by decide +kernel, rfl, by decide +kernel, by decide +kernel⟩
def R_frame_ahead (ds : List Dt) (d : Dt) : Prop := ∃ (S : Sy) (st : List (List Gd)) (l : Nat), ds = [.sys S, frP S.golden st, .int (l : Int)] ∧ SyOk S ∧ FrOk S.golden S.n st ∧ l < S.n ∧ d = frP S.golden (aheadL S.F l st)
abbrev sp_frame_ahead (K : PySem.W.Frag) (C : Addr) : Sp := spP K C R_frame_ahead
theorem ok_frame_ahead {f : Addr} {fd : FuncData} (F : Fun K "frame_ahead" "frame_ahead" s_frame_ahead f fd) (T : Bt mg) (Ts : TS0 K C) (c_added_row : Cl P w K mg base "added_row" 2 (sp_added_row K C)) : FnOk P w K mg base CX0 3 f fd ["system", "frame", "letter"] (sp_frame_ahead K C) := by
  refine F.ok sc_frame_ahead (spP_len (n := 3) fun ds d ⟨S, st, l, h, _⟩ => by rw [h]; rfl) fun cdv A outer s H vs Q E hr h => ?_
  obtain ⟨ds, d, al, ⟨S, st, l, rfl, hS, hst, hl, rfl⟩, q⟩ := h
  obtain _ | ⟨t0, _ | ⟨t1, _ | ⟨t2, _ | _⟩⟩⟩ := al
  rename_i x0 x1 x2
  have nd := sc_frame_ahead.nd
  refine ⟨_, pss_cons (ps_asg (pe_tup (pa_cons (pe_ix ix_tup (pv 1) (pv 2) (fun _ _ => rfl)) (pa_cons (pe_ix ix_tup (pe_sl (pv 0)) (pv 2) (fun _ _ => rfl)) pa_nil))) (pg_tup rfl (pgs_cons (pg_name (i := 3) nd rfl (Or.inr rfl)) (pgs_cons (pg_name (i := 4) nd rfl (Or.inl rfl)) pgs_nil))))
    (pss_cons (ps_setLc (i := 5) (own := [("row", 6), ("factor", 7)]) (g := (gTup K 2 (gCons (gName 6) (gCons (gName 7) gNil)))) (tt := tYes) (te := (tCall (sp_added_row K C) [] E0 (tCons (tVar 0) (tCons (tVar 6) (tCons (tVar 7) (tCons (tVar 3) tNil)))))) rfl nd rfl rfl (sw_true rfl rfl rfl (by decide +kernel)) (pi_zipA (by rfl) T.zip (pa_cons (pv 1) (pa_cons (pv 4) pa_nil))) (blkOk_by (own := [("row", 6), ("factor", 7)]) (N := ["system", "frame", "letter", "head", "factors", "found", "row", "factor", "number"]) (sc := defScope s_frame_ahead) (by decide +kernel)) (fun _ _ _ _ _ => (pg_tup rfl (pgs_cons (pg_name (i := 6) nd rfl (Or.inl rfl)) (pgs_cons (pg_name (i := 7) nd rfl (Or.inl rfl)) pgs_nil)))) (fun _ _ _ _ _ => pts_nil) (fun _ _ _ _ _ => (pe_cl c_added_row (hr.mono (by decide)) rfl (pa_cons (pv 0) (pa_cons (pv 6) (pa_cons (pv 7) (pa_cons (pv 3) pa_nil)))))))
    (pss_cons (ps_asg (pe_callTy call_tuple_of (by rfl) T.tuple (by decide +kernel) (pa_cons (pe_lc (own := [("number", 8)]) (g := (gName 8)) (tt := tYes) (te := (tUn (rU fun i => .int (-i)) (tVar 8))) rfl nd (pi_tup (pv 3)) (blkOk_by (own := [("number", 8)]) (N := ["system", "frame", "letter", "head", "factors", "found", "row", "factor", "number"]) (sc := defScope s_frame_ahead) (by decide +kernel)) (fun _ _ _ _ _ => (pg_name (i := 8) nd rfl (Or.inl rfl))) (fun _ _ _ _ _ => pts_nil) (fun _ _ _ _ _ => (pe_un un_neg (pv 8)))) pa_nil)) (pg_sub (pv 5) (pv 2) set_list))
    (pss_one (ps_ret (pe_callTy call_tuple_of (by rfl) T.tuple (by decide +kernel) (pa_cons (pv 5) pa_nil)))))), ?_⟩
  have hn4 := hS.n4
  have hlt : l < st.length := by rw [hst.1]; exact hl
  obtain ⟨head, hh⟩ : ∃ r, st[l]? = some r := ⟨_, List.getElem?_eq_getElem hlt⟩
  have hlF : l < S.F.length := by rw [hS.wf.len]; exact hl
  obtain ⟨fs, hfs⟩ : ∃ fs, S.F[l]? = some fs := ⟨_, List.getElem?_eq_getElem hlF⟩
  have hfm : fs ∈ S.F := List.mem_of_getElem? hfs
  have hrow := hst.2 head (List.mem_of_getElem? hh)
  refine do_seq (do_two (K := K) (C := C) (dx := rowP S.golden head) (dy := rowD fs) (evd_tup (eds_cons (evd_ixT (n := l) (evd_var rfl t1) (evd_var rfl t2) rfl (by rw [List.getElem?_map, hh]; rfl)) (eds_cons (evd_ixT (n := l) (evd_factors Ts (evd_var rfl t0)) (evd_var rfl t2) rfl (by rw [List.getElem?_map, hfs]; rfl)) eds_nil)) (by simp)) fun x3 x4 H1 e1 t3 t4 => ?_)
  have u0 := t0.ex e1
  have u1 := t1.ex e1
  have hfl : fs.length = st.length := by
    have : S.F.getD l [] = fs := by simp [hfs]
    rw [← this, hS.wf.rows l hl, hst.1]
  refine do_seq (do_setN (K := K) (C := C) (evn_zipG (xs := st) (ys := fs) (rowP S.golden) gdD (fun row f => rowP S.golden (List.zipWith (fun x y => x + f * y) row head)) (fun _ _ => noL_rowP) (by rw [hst.1]; omega) (eds_cons (evd_var rfl u1) (eds_cons (evd_var rfl t4) eds_nil)) (fun _ _ => rfl)
    fun k row f vx vy H2 h1 h2 e2 tx ty => evd_call (eds_cons (evd_var rfl (u0.ex e2)) (eds_cons (evd_var rfl tx) (eds_cons (evd_var rfl ty) (eds_cons (evd_var rfl (t3.ex e2)) eds_nil)))) ⟨S, row, head, f, rfl, hS, hst.2 row (List.mem_of_getElem? h1), hrow, (by
      obtain ⟨a1, a2, a3, a4, a5⟩ := hS.lo fs hfm f (List.mem_of_getElem? h2)
      exact ⟨a1, a2, a3, a4, a5, fun hg => hS.ng hg fs hfm f (List.mem_of_getElem? h2)⟩), rfl⟩) fun p xs H2 hp e2 hx al => ?_)
  have hxl : xs.length = st.length := by rw [al.length, List.length_zipWith, hfl, Nat.min_self]
  have v3 := t3.ex e2
  refine do_seq (do_setL (K := K) (C := C) (l := l) (d := rowP S.golden (head.map fun x => -x)) rfl hx ((evd_tuple (evn_lc1 (es := (rowI S.golden (head.map fun x => -x)).map Dt.int) (evi_tup (evd_var rfl v3)) (by simp [rowI_len]) (by rw [List.length_map, rowI_len]; split <;> (rw [hrow.1]; omega)) noLs_ints (fun _ => rfl) ?_)).to rfl) (evd_var rfl ((t2.ex e1).ex e2)) (by rw [hxl]; exact hlt) fun v H3 e3 tv => ?_)
  · intro k d e x H4 hd he e4 tx
    rw [rowI_neg, List.map_map, List.getElem?_map] at he
    rw [List.getElem?_map] at hd
    cases hk : (rowI S.golden head)[k]? with
    | none => rw [hk] at hd; simp at hd
    | some z =>
      rw [hk] at hd he
      cases hd
      cases he
      exact evd_neg (evd_var rfl tx)
  · have hp3 : H3 p = some (.lst xs) := ex_lst e3 hx
    have al3 := (al.ex e3).set (l := l) tv
    have nl : noLs ((List.zipWith (fun row f => rowP S.golden (List.zipWith (fun x y => x + f * y) row head)) st fs).set l (rowP S.golden (head.map fun x => -x))) = true := by
      rw [noLs_iff]
      intro d hd
      rcases List.mem_or_eq_of_mem_set hd with hd | hd
      · obtain ⟨k, hk⟩ := List.getElem?_of_mem hd
        rw [List.getElem?_zipWith] at hk
        cases h1 : st[k]? with
        | none => rw [h1] at hk; simp at hk
        | some a =>
          cases h2 : fs[k]? with
          | none => rw [h1, h2] at hk; simp at hk
          | some b => rw [h1, h2] at hk; simp at hk; rw [← hk]; exact noL_rowP
      · rw [hd]; exact noL_rowP
    have al4 := al3.upd (p := p) (o := .lst (xs.set l v)) ⟨_, hp3⟩ nl
    refine do_ret (K := K) (C := C) ((evd_tupleL (evd_var rfl (.lst (sq_of upd_same) al4))).to (dx := frP S.golden (aheadL S.F l st)) ?_) fun u H4 e4 tu => q u H4 (((e1.trans e2).trans e3).mut (fresh_back e1 hp) |>.trans e4) tu
    unfold frP
    rw [← ahead_eq hS hl hst.1 hfs hh, List.map_set, List.map_zipWith]
end
section
variable {P : Program} {w : World} {K : PySem.W.Frag} {mg : Str → Option Value} {base : Heap} {C cf Pt : Addr}
/-! first_left -/
abbrev s_first_left : Stmt := topS 21
theorem sc_first_left : FnScope ["system", "frame"] ["system", "frame"] (defScope s_first_left) := ⟨rfl, rfl, rfl, by decide +kernel, rfl, by decide +kernel, by decide +kernel⟩
def flD (st : List (List Gd)) : Dt := fstD (leftsL st).head?
def R_first_left (ds : List Dt) (d : Dt) : Prop := ∃ (S : Sy) (st : List (List Gd)), ds = [.sys S, frP S.golden st] ∧ SyOk S ∧ FrOk S.golden S.n st ∧ (∀ r ∈ st, smallR r) ∧ d = flD st
abbrev sp_first_left (Pt : Addr) (K : PySem.W.Frag) (C : Addr) : Sp := spT Pt K C R_first_left
theorem ok_first_left {f : Addr} {fd : FuncData} (F : FunC K "first_left" "first_left" s_first_left f fd cf) (TB : LamX.TabB base mg cf Pt) (T : Bt mg) (Ts : TS0 K C) (c_is_left : Cl P w K mg base "is_left" 3 (sp_is_left K C)) :
    FnOk P w K mg base CX0 5 f fd ["system", "frame"] (sp_first_left Pt K C) := by
  refine F.ok sc_first_left (spT_len (n := 2) fun ds d ⟨S, st, h, _⟩ => by rw [h]; rfl) fun A outer s H vs Q E hr h => ?_
  obtain ⟨tab, ds, d, al, ⟨S, st, rfl, hS, hst, hsm, rfl⟩, q⟩ := h
  obtain _ | ⟨t0, _ | ⟨t1, _ | _⟩⟩ := al
  rename_i x0 x1
  have nd := sc_first_left.nd
  refine ⟨_, pss_one (ps_ret (pe_nextG (k := 3) (x := "letter") hr rfl rfl T.next TB rfl (gscp_by (sc := defScope s_first_left) (N := ["system", "frame"]) (by decide +kernel))
    (pi_range1 (by rfl) T.range (pa_cons (pe_sl (pv 0)) pa_nil)) (fun _ => rfl) (fun A' fp s' H' code hr' => pt_val (pe_cl c_is_left hr' rfl (pa_cons (pv 0) (pa_cons (pv 1) (pa_cons (pv 2) pa_nil))))))), ?_⟩
  have hn4 := hS.n4
  refine do_ret (K := K) (C := C) (d := flD st) ((evd_nextG (n := S.n) (fun l => lowRow (st.getD l [])) tab (evi_rng1 (eds_cons (evd_letters Ts (evd_var rfl t0)) eds_nil) (by omega)) fun k x H1 hk e1 tx => evt_B (evd_call (eds_cons (evd_var rfl (t0.ex e1)) (eds_cons (evd_var rfl (t1.ex e1)) (eds_cons (evd_var rfl tx) eds_nil))) ⟨S, st, k, rfl, hS, hst, hsm, hk, rfl⟩)).to ?_) q
  unfold flD
  rw [leftsL_head, hst.1]
/-! word_of_frame -/
abbrev s_word_of_frame : Stmt := topS 22
theorem sc_word_of_frame : FnScope ["system", "frame", "found", "letter"] ["system", "frame"] (defScope s_word_of_frame) := ⟨rfl, rfl, rfl, by decide +kernel, rfl, by decide +kernel, by decide +kernel⟩
structure SyG (S : Sy) : Prop where
  ok : SyOk S
  cox : Sys S.n (fac S.F)
def R_word_of_frame (ds : List Dt) (d : Dt) : Prop := ∃ (S : Sy) (u : List Nat), ds = [.sys S, frP S.golden (stateL S.n S.F u)] ∧ SyG S ∧ ok S.n u ∧ u.length ≤ 40 ∧ d = wordD (due S.n S.F u)
abbrev sp_word_of_frame (Pt : Addr) (K : PySem.W.Frag) (C : Addr) : Sp := spT Pt K C R_word_of_frame
theorem ok_word_of_frame {f : Addr} {fd : FuncData} (F : Fun K "word_of_frame" "word_of_frame" s_word_of_frame f fd) (T : Bt mg) (c_first_left : Cl P w K mg base "first_left" 5 (sp_first_left Pt K C)) (c_frame_ahead : Cl P w K mg base "frame_ahead" 3 (sp_frame_ahead K C)) :
    FnOk P w K mg base CX0 6 f fd ["system", "frame"] (sp_word_of_frame Pt K C) := by
  refine F.ok sc_word_of_frame (spT_len (n := 2) fun ds d ⟨S, st, h, _⟩ => by rw [h]; rfl) fun cdv A outer s H vs Q E hr h => ?_
  obtain ⟨tab, ds, d, al, ⟨S, u, rfl, hG, hu, hul, rfl⟩, q⟩ := h
  obtain _ | ⟨t0, _ | ⟨t1, _ | _⟩⟩ := al
  rename_i x0 x1
  have nd := sc_word_of_frame.nd
  refine ⟨_, pss_cons (ps_set (i := 2) nd rfl (Or.inl rfl) (pe_lst pa_nil))
    (pss_cons (ps_set (i := 3) nd rfl (Or.inl rfl) (pe_cl c_first_left (hr.mono (by decide)) rfl (pa_cons (pv 0) (pa_cons (pv 1) pa_nil))))
    (pss_cons (ps_while PassesOwn.never (pt_cmpR op_notN (pv 3) pe_non (nomark _)) (pss_cons (ps_expr (pe_bm PySem.F.plainAttrs_list PySem.F.slot_list_append PySem.F.type_list_append mt_append (pv 2) (pa_cons (pv 3) pa_nil)))
    (pss_cons (ps_set (i := 1) nd rfl (Or.inl rfl) (pe_cl c_frame_ahead (hr.mono (by decide)) rfl (pa_cons (pv 0) (pa_cons (pv 1) (pa_cons (pv 3) pa_nil)))))
    (pss_one (ps_set (i := 3) nd rfl (Or.inl rfl) (pe_cl c_first_left (hr.mono (by decide)) rfl (pa_cons (pv 0) (pa_cons (pv 1) pa_nil))))))))
    (pss_one (ps_ret (pe_callTy call_tuple_of (by rfl) T.tuple (by decide +kernel) (pa_cons (pv 2) pa_nil)))))), ?_⟩
  have hS := hG.ok
  have W := hS.wf
  have X := hG.cox
  have hfl : ∀ (v : List Nat) (σ : L2.St) (H' : Hp) (xf : V), Ex H H' → σ[0]? = some (some x0) → σ[1]? = some (some xf) → ok S.n v → v.length ≤ 200 → Tp K C H' xf (frP S.golden (stateL S.n S.F v)) →
      EvD K C (tCall (sp_first_left Pt K C) [] E0 (tCons (tVar 0) (tCons (tVar 1) tNil))) σ H' (flD (stateL S.n S.F v)) := fun v σ H' xf e h0 h1 hv hl tf =>
    evd_callT (tab.ex e) (eds_cons (evd_var h0 (t0.ex e)) (eds_cons (evd_var h1 tf) eds_nil)) ⟨S, _, rfl, hS, stateL_ok hS hv, stateL_small hS hv hl, rfl⟩
  refine do_seq (do_setN (K := K) (C := C) (evn_lst eds_nil (by simp)) fun p xs H1 hp e1 hx al => ?_)
  cases al
  refine do_seq (do_set (K := K) (C := C) (hfl u _ H1 x1 e1 rfl rfl hu (by omega) (t1.ex e1)) fun x3 H2 e2 t3 => ?_)
  have e12 := e1.trans e2
  refine do_seq (do_while (fun m σ H' => ∃ (xf xl : V) (v pre : List Nat) (xs : List V), σ = [some x0, some xf, some (.ref p), some xl] ∧ Ex H H' ∧ H' p = some (.lst xs) ∧ TpAll K C H' xs (pre.map fun (a : Nat) => Dt.int (a : Int)) ∧ ok S.n v ∧ v.length ≤ 40 + pre.length ∧
      Tp K C H' xf (frP S.golden (stateL S.n S.F v)) ∧ Tp K C H' xl (flD (stateL S.n S.F v)) ∧ due S.n S.F u = pre ++ normL S.F 100 (stateL S.n S.F v) ∧ len S.n (fac S.F) v + pre.length = len S.n (fac S.F) u ∧ m = len S.n (fac S.F) v)
    (len S.n (fac S.F) u) ⟨x1, x3, u, [], [], rfl, e12, ex_lst e2 hx, .nil, hu, by simpa using hul, t1.ex e12, t3, rfl, by simp, rfl⟩ ?_)
  rintro m σ' H' ⟨xf, xl, v, pre, xs, rfl, e3, hpx, al, hv, hvl, tf, tl, hdue, hlen, rfl⟩
  have hlu : len S.n (fac S.F) u ≤ 40 := Nat.le_trans (len_self hu) hul
  refine ⟨!decide (xl = .non), evt_notN rfl, fun hb H4 e4 => ?_, fun hb H4 e4 => ?_⟩
  · rw [stateL_st W v hv] at tl hdue
    cases hl : leftsL (stOf S.n (fac S.F) v) with
    | nil =>
      unfold flD at tl
      rw [hl] at tl
      cases tl
      simp at hb
    | cons l r =>
      unfold flD at tl
      rw [hl] at tl
      have tl : Tp K C H' xl (.int (l : Int)) := tl
      obtain ⟨hln, hleft⟩ := leftsL_cons hl
      have hll := (left_iff X v hv l hln).mp hleft
      rw [normL_turn X hv (by omega) hl] at hdue
      have hcv : ok S.n (l :: v) := hv.cons hln
      refine do_seq (do_app (K := K) (C := C) rfl (ex_lst e4 hpx) (evd_var rfl (tl.ex e4)) (by rw [al.length]; simp; omega) fun y H5 e5 ty => ?_)
      have h5 := ex_lst (e4.trans e5) hpx
      have e35 := (e3.trans e4).trans e5
      have al5 := (al.ex (e4.trans e5)).app (.cons ty .nil)
      have nlw : ∀ ws : List Nat, noLs (ws.map fun (a : Nat) => Dt.int (a : Int)) = true := fun ws => noLs_map (fun _ => noL_int) ws
      have eu := e35.mut (o := .lst (xs ++ [y])) hp
      have al6 := al5.upd (p := p) (o := .lst (xs ++ [y])) ⟨_, h5⟩ (by rw [← List.map_singleton (f := fun (a : Nat) => Dt.int (a : Int)), ← List.map_append]; exact nlw _)
      have tf6 := (tf.ex (e4.trans e5)).upd (p := p) (o := .lst (xs ++ [y])) ⟨_, h5⟩ (by unfold frP; rw [noL_tup]; exact noLs_map (fun _ => noL_rowP) _)
      have tl6 := (tl.ex (e4.trans e5)).upd (p := p) (o := .lst (xs ++ [y])) ⟨_, h5⟩ noL_int
      refine do_seq (do_set (K := K) (C := C) (evd_call (eds_cons (evd_var rfl (t0.ex eu)) (eds_cons (evd_var rfl tf6) (eds_cons (evd_var rfl tl6) eds_nil))) ⟨S, _, l, rfl, hS, stateL_ok hS hv, hln, rfl⟩) fun xf' H7 e7 tf7 => ?_)
      rw [stateL_st W v hv, aheadL_st X hln, ← stateL_st W _ hcv] at tf7
      refine do_set (K := K) (C := C) (hfl (l :: v) _ H7 xf' (eu.trans e7) rfl rfl hcv (by simp; omega) tf7) fun xl' H8 e8 tl8 => ?_
      refine ⟨len S.n (fac S.F) (l :: v), by omega, xf', xl', l :: v, pre ++ [l], xs ++ [y], rfl, (eu.trans e7).trans e8, ex_lst (e7.trans e8) upd_same, ?_, hcv, by simp; omega, tf7.ex e8, tl8, ?_, by simp; omega, rfl⟩
      · rw [List.map_append]
        exact al6.ex (e7.trans e8)
      · rw [hdue, stateL_st W _ hcv]; simp
  · rw [stateL_st W v hv] at tl hdue
    cases hl : leftsL (stOf S.n (fac S.F) v) with
    | nil =>
      rw [normL_end hl, List.append_nil] at hdue
      refine do_ret (K := K) (C := C) (d := wordD (due S.n S.F u)) ((evd_tupleL (evd_var rfl (.lst (sq_of (ex_lst e4 hpx)) (al.ex e4)))).to (by rw [hdue]; rfl)) fun y H5 e5 ty => q y H5 ((e3.trans e4).trans e5) ty
    | cons l r =>
      unfold flD at tl
      rw [hl] at tl
      have tl : Tp K C H' xl (.int (l : Int)) := tl
      cases tl
      simp at hb
end
end UW
namespace UW
open PySem PySem.Spec PyProof.Rows L2 Evl StX SlX ClX RZ
/-- what the module's names hold -/
structure TM (K : PySem.W.Frag) (mg : Str → Option Value) (C : Addr) : Prop where
  System : mg "System" = some (.ref C)
  MAX_WORD : ∃ t, mg "MAX_WORD" = some (.int 40 t)
  isi : SIsi K C
  kit : PySem.W.kitOne K (.ref C) (.ref C) = some true
section
variable {K : PySem.W.Frag} {C : Addr} {H H' : Hp} {σ : L2.St} {ta tb tc te : TE} {t : TA} {d dx dy dz : Dt} {ds es : List Dt} {i j : Int} {b : Bool}
theorem tyx_tup {v : V} (t : Tp K C H v (.tup ds)) : TyX K H v (.type "tuple") := by
  obtain ⟨a, xs, rfl, hs, al⟩ := t.tup'
  rcases hs with (h | ⟨o, h⟩) | ⟨o, its, n, h1, h2, _⟩
  · exact .base (.tup h)
  · exact .fTuple h
  · exact .kTuple h1 h2
theorem evd_isTup (h : EvD K C ta σ H (.tup ds)) : EvD K C (tCB (rIsi K) (tCons ta (tCons (tC (.ty "tuple")) tNil))) σ H (.bl true) :=
  fun H1 e Q q => h H1 e _ fun v H2 e2 t => ⟨_, _, .type "tuple", .type "tuple", true, rfl, .ty "tuple", tyx_tup t, kit_ty (by decide +kernel), q _ H2 e2 (.bl true)⟩
theorem evd_isSys {mg : Str → Option Value} {S : Sy} (Ts : TS0 K C) (M : TM K mg C) (h : EvD K C ta σ H (.sys S)) : EvD K C (tCB (rIsiSl K (.ref C)) (tCons ta (tCons (tC (.ref C)) tNil))) σ H (.bl true) :=
  fun H1 e Q q => h H1 e _ fun v H2 e2 t => by
    cases t with
    | sys h1 h2 f => exact ⟨_, C, _, _, .ref C, true, rfl, rfl, fun w r => r, .inr ⟨h1, h2⟩, Ts.cls, M.isi, M.kit, q _ H2 e2 (.bl true)⟩
end
section
variable {P : Program} {w : World} {K : PySem.W.Frag} {mg : Str → Option Value} {base : Heap} {C Pt : Addr}
/-! is_word_in -/
abbrev s_is_word_in : Stmt := topS 40
theorem sc_is_word_in : FnScope ["system", "value", "letter"] ["system", "value"] (defScope s_is_word_in) := ⟨rfl, rfl, rfl, by decide +kernel, rfl, by decide +kernel, by decide +kernel⟩
def R_is_word_in (ds : List Dt) (d : Dt) : Prop := ∃ (S : Sy) (u : List Nat), ds = [.sys S, wordD u] ∧ SyOk S ∧ ok S.n u ∧ u.length ≤ 40 ∧ d = .bl true
abbrev sp_is_word_in (K : PySem.W.Frag) (C : Addr) : Sp := spP K C R_is_word_in
theorem ok_is_word_in {f : Addr} {fd : FuncData} (F : Fun K "is_word_in" "is_word_in" s_is_word_in f fd) (T : Bt mg) (Ts : TS0 K C) (M : TM K mg C) (c_is_within : Cl P w K mg base "is_within" 2 (sp_is_within K C)) : FnOk P w K mg base CX0 3 f fd ["system", "value"] (sp_is_word_in K C) := by
  refine F.ok sc_is_word_in (spP_len (n := 2) fun ds d ⟨S, st, h, _⟩ => by rw [h]; rfl) fun cdv A outer s H vs Q E hr h => ?_
  obtain ⟨ds, d, al, ⟨S, u, rfl, hS, hu, hul, rfl⟩, q⟩ := h
  obtain _ | ⟨t0, _ | ⟨t1, _ | _⟩⟩ := al
  obtain ⟨tk, cMAX_WORD⟩ := M.MAX_WORD
  have nd := sc_is_word_in.nd
  refine ⟨_, pss_cons (ps_if (PW.pt (pw_or (pt_not (pt_val (pe_callB call_isi (by rfl) T.isinstance (by decide +kernel) (pa_cons (pv 1) (pa_cons (pe_bltn (v := .ty "tuple") (by rfl) T.tuple (by decide +kernel) rfl) pa_nil))))) (pw_or1 (pt_cmpR op_gt (pe_callB call_len_seq (by rfl) T.len PySem.boot_len (pa_cons (pv 1) pa_nil)) (pe_glob (v := .int 40) rfl cMAX_WORD ⟨_, rfl⟩) (nomark _))))) (pss_one (ps_ret pe_bl)) (pss_nil))
    (pss_one (ps_ret (pe_callB (cr_all rfl) (by rfl) T.all (by decide +kernel) (pa_cons (pe_lc (own := [("letter", 2)]) (g := (gName 2)) (tt := tYes) (te := (tCall (sp_is_within K C) [] E0 (tCons (tVar 2) (tCons (tC (.int 0)) (tCons (tOp (rI0 fun i j => .int (i - j)) (tSl K (tVar 0) "own_letters") (tC (.int 1))) tNil))))) rfl nd (pi_tup (pv 1)) (blkOk_by (own := [("letter", 2)]) (N := ["system", "value", "letter"]) (sc := defScope s_is_word_in) (by decide +kernel)) (fun _ _ _ _ _ => (pg_name (i := 2) nd rfl (Or.inl rfl))) (fun _ _ _ _ _ => pts_nil) (fun _ _ _ _ _ => (pe_cl c_is_within (hr.mono (by decide)) rfl (pa_cons (pv 2) (pa_cons pe_int (pa_cons (pe_op op_sub (pe_sl (pv 0)) pe_int) pa_nil)))))) pa_nil)))), ?_⟩
  refine do_seq (do_if (b := (!true || decide ((40 : Int) < (u.map fun (a : Nat) => Dt.int (a : Int)).length))) (et_or (et_not (evt_B (evd_isTup (evd_var rfl t1)))) fun _ => evt_test (evd_gt (evd_lenT (evd_var rfl t1)) evd_int)) (fun h H1 e1 => ?_) fun h H1 e1 => ?_)
  · simp at h; omega
  · refine do_ret (K := K) (C := C) (evd_all (bs := u.map fun _ => true) (evn_lc1 (ds := u.map fun (a : Nat) => Dt.int (a : Int)) (evi_tup (evd_var rfl (t1.ex e1))) (by simp) (by simp; omega) noLs_bls (fun _ => rfl) ?_)) fun v H2 e2 t => q v H2 (e1.trans e2) ?_
    · intro k d e x H4 hd he e4 tx
      rw [List.getElem?_map] at hd
      rw [List.map_map, List.getElem?_map] at he
      cases hk : u[k]? with
      | none => rw [hk] at hd; simp at hd
      | some a =>
        rw [hk] at hd he
        cases hd
        cases he
        have ha : a < S.n := hu a (List.mem_of_getElem? hk)
        refine evd_call (eds_cons (evd_var rfl tx) (eds_cons evd_int (eds_cons (evd_sub (evd_letters Ts (evd_var rfl ((t0.ex e1).ex e4))) evd_int) eds_nil))) ⟨(a : Int), 0, (S.n : Int) - 1, rfl, ?_⟩
        show Dt.bl true = Dt.bl (decide ((0 : Int) ≤ (a : Int)) && decide ((a : Int) ≤ (S.n : Int) - 1))
        congr 1
        simp; omega
    · have : (u.map fun _ => true).all id = true := by simp
      rw [this] at t
      exact t
/-! normal_in -/
abbrev s_normal_in : Stmt := topS 41
theorem sc_normal_in : FnScope ["system", "word"] ["system", "word"] (defScope s_normal_in) := ⟨rfl, rfl, rfl, by decide +kernel, rfl, by decide +kernel, by decide +kernel⟩
def R_normal_in (ds : List Dt) (d : Dt) : Prop := ∃ (S : Sy) (u : List Nat), ds = [.sys S, wordD u] ∧ SyG S ∧ ok S.n u ∧ u.length ≤ 40 ∧ d = wordD (due S.n S.F u)
abbrev sp_normal_in (Pt : Addr) (K : PySem.W.Frag) (C : Addr) : Sp := spT Pt K C R_normal_in
theorem ok_normal_in {f : Addr} {fd : FuncData} (F : Fun K "normal_in" "normal_in" s_normal_in f fd) (c_frame_of : Cl P w K mg base "frame_of" 3 (sp_frame_of K C)) (c_word_of_frame : Cl P w K mg base "word_of_frame" 6 (sp_word_of_frame Pt K C)) : FnOk P w K mg base CX0 7 f fd ["system", "word"] (sp_normal_in Pt K C) := by
  refine F.ok sc_normal_in (spT_len (n := 2) fun ds d ⟨S, st, h, _⟩ => by rw [h]; rfl) fun cdv A outer s H vs Q E hr h => ?_
  obtain ⟨tab, ds, d, al, ⟨S, u, rfl, hG, hu, hul, rfl⟩, q⟩ := h
  obtain _ | ⟨t0, _ | ⟨t1, _ | _⟩⟩ := al
  have nd := sc_normal_in.nd
  refine ⟨_, pss_one (ps_ret (pe_cl c_word_of_frame (hr.mono (by decide)) rfl (pa_cons (pv 0) (pa_cons (pe_cl c_frame_of (hr.mono (by decide)) rfl (pa_cons (pv 0) (pa_cons (pv 1) pa_nil))) pa_nil)))), ?_⟩
  exact do_ret (K := K) (C := C) (evd_callT tab (eds_cons (evd_var rfl t0) (eds_cons (evd_call (eds_cons (evd_var rfl t0) (eds_cons (evd_var rfl t1) eds_nil)) ⟨S, u, rfl, hG.ok, hu, by omega, rfl⟩) eds_nil)) ⟨S, u, rfl, hG, hu, hul, rfl⟩) q
/-! is_shortest_in -/
abbrev s_is_shortest_in : Stmt := topS 42
theorem sc_is_shortest_in : FnScope ["system", "word"] ["system", "word"] (defScope s_is_shortest_in) := ⟨rfl, rfl, rfl, by decide +kernel, rfl, by decide +kernel, by decide +kernel⟩
def R_is_shortest_in (ds : List Dt) (d : Dt) : Prop := ∃ (S : Sy) (u : List Nat), ds = [.sys S, wordD u] ∧ SyG S ∧ ok S.n u ∧ u.length ≤ 40 ∧ d = .bl (decide ((due S.n S.F u).length = u.length))
abbrev sp_is_shortest_in (Pt : Addr) (K : PySem.W.Frag) (C : Addr) : Sp := spT Pt K C R_is_shortest_in
theorem wordD_len (u : List Nat) : (u.map fun (a : Nat) => Dt.int (a : Int)).length = u.length := by simp
theorem ok_is_shortest_in {f : Addr} {fd : FuncData} (F : Fun K "is_shortest_in" "is_shortest_in" s_is_shortest_in f fd) (T : Bt mg) (c_normal_in : Cl P w K mg base "normal_in" 7 (sp_normal_in Pt K C)) : FnOk P w K mg base CX0 8 f fd ["system", "word"] (sp_is_shortest_in Pt K C) := by
  refine F.ok sc_is_shortest_in (spT_len (n := 2) fun ds d ⟨S, st, h, _⟩ => by rw [h]; rfl) fun cdv A outer s H vs Q E hr h => ?_
  obtain ⟨tab, ds, d, al, ⟨S, u, rfl, hG, hu, hul, rfl⟩, q⟩ := h
  obtain _ | ⟨t0, _ | ⟨t1, _ | _⟩⟩ := al
  have nd := sc_is_shortest_in.nd
  refine ⟨_, pss_one (ps_ret (pe_cmpR op_eq (pe_callB call_len_seq (by rfl) T.len PySem.boot_len (pa_cons (pe_cl c_normal_in (hr.mono (by decide)) rfl (pa_cons (pv 0) (pa_cons (pv 1) pa_nil))) pa_nil)) (pe_callB call_len_seq (by rfl) T.len PySem.boot_len (pa_cons (pv 1) pa_nil)) (nomark _))), ?_⟩
  refine do_ret (K := K) (C := C) ((evd_eqI (evd_lenT (evd_callT tab (eds_cons (evd_var rfl t0) (eds_cons (evd_var rfl t1) eds_nil)) ⟨S, u, rfl, hG, hu, hul, rfl⟩)) (evd_lenT (evd_var rfl t1))).to ?_) q
  rw [wordD_len, wordD_len]
  congr 1
  rw [Bool.eq_iff_iff, decide_eq_true_eq, decide_eq_true_eq]
  omega
/-! require_system, require_word, both -/
abbrev s_require_system : Stmt := topS 37
theorem sc_require_system : FnScope ["value"] ["value"] (defScope s_require_system) := ⟨rfl, rfl, rfl, by decide +kernel, rfl, by decide +kernel, by decide +kernel⟩
def R_require_system (ds : List Dt) (d : Dt) : Prop := ∃ (S : Sy), ds = [.sys S] ∧ d = .non
abbrev sp_require_system (K : PySem.W.Frag) (C : Addr) : Sp := spP K C R_require_system
theorem ok_require_system {f : Addr} {fd : FuncData} (F : Fun K "require_system" "require_system" s_require_system f fd) (T : Bt mg) (Ts : TS0 K C) (M : TM K mg C) : FnOk P w K mg base CX0 1 f fd ["value"] (sp_require_system K C) := by
  refine F.ok sc_require_system (spP_len (n := 1) fun ds d ⟨S, h, _⟩ => by rw [h]; rfl) fun cdv A outer s H vs Q E hr h => ?_
  obtain ⟨ds, d, al, ⟨S, rfl, rfl⟩, q⟩ := h
  obtain _ | ⟨t0, _ | _⟩ := al
  have nd := sc_require_system.nd
  refine ⟨_, pss_one (ps_if (pt_not (pt_val (pe_callB (call_isiSl (.ref C)) (by rfl) T.isinstance (by decide +kernel) (pa_cons (pv 0) (pa_cons (pe_glob (v := .ref C) rfl M.System rfl) pa_nil))))) (pss_one ps_never) (pss_nil)), ?_⟩
  exact do_if (b := !true) (et_not (evt_B (evd_isSys Ts M (evd_var rfl t0)))) (fun h => absurd h (by decide)) fun _ H1 e1 => q _ H1 e1 .non
abbrev s_require_word : Stmt := topS 43
theorem sc_require_word : FnScope ["system", "value"] ["system", "value"] (defScope s_require_word) := ⟨rfl, rfl, rfl, by decide +kernel, rfl, by decide +kernel, by decide +kernel⟩
def R_require_word (ds : List Dt) (d : Dt) : Prop := ∃ (S : Sy) (u : List Nat), ds = [.sys S, wordD u] ∧ SyOk S ∧ ok S.n u ∧ u.length ≤ 40 ∧ d = .non
abbrev sp_require_word (K : PySem.W.Frag) (C : Addr) : Sp := spP K C R_require_word
theorem ok_require_word {f : Addr} {fd : FuncData} (F : Fun K "require_word" "require_word" s_require_word f fd) (c_is_word_in : Cl P w K mg base "is_word_in" 3 (sp_is_word_in K C)) : FnOk P w K mg base CX0 4 f fd ["system", "value"] (sp_require_word K C) := by
  refine F.ok sc_require_word (spP_len (n := 2) fun ds d ⟨S, u, h, _⟩ => by rw [h]; rfl) fun cdv A outer s H vs Q E hr h => ?_
  obtain ⟨ds, d, al, ⟨S, u, rfl, hS, hu, hul, rfl⟩, q⟩ := h
  obtain _ | ⟨t0, _ | ⟨t1, _ | _⟩⟩ := al
  have nd := sc_require_word.nd
  refine ⟨_, pss_one (ps_if (pt_not (pt_val (pe_cl c_is_word_in (hr.mono (by decide)) rfl (pa_cons (pv 0) (pa_cons (pv 1) pa_nil))))) (pss_one ps_never) (pss_nil)), ?_⟩
  exact do_if (b := !true) (et_not (evt_B (evd_call (eds_cons (evd_var rfl t0) (eds_cons (evd_var rfl t1) eds_nil)) ⟨S, u, rfl, hS, hu, hul, rfl⟩))) (fun h => absurd h (by decide)) fun _ H1 e1 => q _ H1 e1 .non
abbrev s_require_system_and_word : Stmt := topS 44
theorem sc_require_system_and_word : FnScope ["system", "word"] ["system", "word"] (defScope s_require_system_and_word) := ⟨rfl, rfl, rfl, by decide +kernel, rfl, by decide +kernel, by decide +kernel⟩
theorem ok_require_system_and_word {f : Addr} {fd : FuncData} (F : Fun K "require_system_and_word" "require_system_and_word" s_require_system_and_word f fd) (c_require_system : Cl P w K mg base "require_system" 1 (sp_require_system K C)) (c_require_word : Cl P w K mg base "require_word" 4 (sp_require_word K C)) :
    FnOk P w K mg base CX0 5 f fd ["system", "word"] (sp_require_word K C) := by
  refine F.ok sc_require_system_and_word (spP_len (n := 2) fun ds d ⟨S, u, h, _⟩ => by rw [h]; rfl) fun cdv A outer s H vs Q E hr h => ?_
  obtain ⟨ds, d, al, ⟨S, u, rfl, hS, hu, hul, rfl⟩, q⟩ := h
  obtain _ | ⟨t0, _ | ⟨t1, _ | _⟩⟩ := al
  have nd := sc_require_system_and_word.nd
  refine ⟨_, pss_cons (ps_expr (pe_cl c_require_system (hr.mono (by decide)) rfl (pa_cons (pv 0) pa_nil)))
    (pss_one (ps_expr (pe_cl c_require_word (hr.mono (by decide)) rfl (pa_cons (pv 0) (pa_cons (pv 1) pa_nil))))), ?_⟩
  refine do_seq (do_drop (K := K) (C := C) (evd_call (eds_cons (evd_var rfl t0) eds_nil) ⟨S, rfl, rfl⟩) fun v1 H1 e1 _ => ?_)
  exact do_drop (K := K) (C := C) (evd_call (eds_cons (evd_var rfl (t0.ex e1)) (eds_cons (evd_var rfl (t1.ex e1)) eds_nil)) ⟨S, u, rfl, hS, hu, hul, rfl⟩) fun v2 H2 e2 _ => q _ H2 (e1.trans e2) .non
abbrev sp_require_system_and_word (K : PySem.W.Frag) (C : Addr) : Sp := sp_require_word K C
/-! normal, length, is_shortest -/
abbrev s_normal : Stmt := topS 45
theorem sc_normal : FnScope ["system", "word"] ["system", "word"] (defScope s_normal) := ⟨rfl, rfl, rfl, by decide +kernel, rfl, by decide +kernel, by decide +kernel⟩
theorem ok_normal {f : Addr} {fd : FuncData} (F : Fun K "normal" "normal" s_normal f fd) (c_require_system_and_word : Cl P w K mg base "require_system_and_word" 5 (sp_require_system_and_word K C)) (c_normal_in : Cl P w K mg base "normal_in" 7 (sp_normal_in Pt K C)) :
    FnOk P w K mg base CX0 8 f fd ["system", "word"] (sp_normal_in Pt K C) := by
  refine F.ok sc_normal (spT_len (n := 2) fun ds d ⟨S, st, h, _⟩ => by rw [h]; rfl) fun cdv A outer s H vs Q E hr h => ?_
  obtain ⟨tab, ds, d, al, ⟨S, u, rfl, hG, hu, hul, rfl⟩, q⟩ := h
  obtain _ | ⟨t0, _ | ⟨t1, _ | _⟩⟩ := al
  have nd := sc_normal.nd
  refine ⟨_, pss_cons (ps_expr (pe_cl c_require_system_and_word (hr.mono (by decide)) rfl (pa_cons (pv 0) (pa_cons (pv 1) pa_nil))))
    (pss_one (ps_ret (pe_cl c_normal_in (hr.mono (by decide)) rfl (pa_cons (pv 0) (pa_cons (pv 1) pa_nil))))), ?_⟩
  refine do_seq (do_drop (K := K) (C := C) (evd_call (eds_cons (evd_var rfl t0) (eds_cons (evd_var rfl t1) eds_nil)) ⟨S, u, rfl, hG.ok, hu, hul, rfl⟩) fun v1 H1 e1 _ => ?_)
  exact do_ret (K := K) (C := C) (evd_callT (tab.ex e1) (eds_cons (evd_var rfl (t0.ex e1)) (eds_cons (evd_var rfl (t1.ex e1)) eds_nil)) ⟨S, u, rfl, hG, hu, hul, rfl⟩) fun v H2 e2 t => q v H2 (e1.trans e2) t
abbrev sp_normal (Pt : Addr) (K : PySem.W.Frag) (C : Addr) : Sp := sp_normal_in Pt K C
abbrev s_length : Stmt := topS 46
theorem sc_length : FnScope ["system", "word"] ["system", "word"] (defScope s_length) := ⟨rfl, rfl, rfl, by decide +kernel, rfl, by decide +kernel, by decide +kernel⟩
def R_length (ds : List Dt) (d : Dt) : Prop := ∃ (S : Sy) (u : List Nat), ds = [.sys S, wordD u] ∧ SyG S ∧ ok S.n u ∧ u.length ≤ 40 ∧ d = .int ((due S.n S.F u).length : Int)
abbrev sp_length (Pt : Addr) (K : PySem.W.Frag) (C : Addr) : Sp := spT Pt K C R_length
theorem ok_length {f : Addr} {fd : FuncData} (F : Fun K "length" "length" s_length f fd) (T : Bt mg) (c_require_system_and_word : Cl P w K mg base "require_system_and_word" 5 (sp_require_system_and_word K C)) (c_normal_in : Cl P w K mg base "normal_in" 7 (sp_normal_in Pt K C)) :
    FnOk P w K mg base CX0 8 f fd ["system", "word"] (sp_length Pt K C) := by
  refine F.ok sc_length (spT_len (n := 2) fun ds d ⟨S, st, h, _⟩ => by rw [h]; rfl) fun cdv A outer s H vs Q E hr h => ?_
  obtain ⟨tab, ds, d, al, ⟨S, u, rfl, hG, hu, hul, rfl⟩, q⟩ := h
  obtain _ | ⟨t0, _ | ⟨t1, _ | _⟩⟩ := al
  have nd := sc_length.nd
  refine ⟨_, pss_cons (ps_expr (pe_cl c_require_system_and_word (hr.mono (by decide)) rfl (pa_cons (pv 0) (pa_cons (pv 1) pa_nil))))
    (pss_one (ps_ret (pe_callB call_len_seq (by rfl) T.len PySem.boot_len (pa_cons (pe_cl c_normal_in (hr.mono (by decide)) rfl (pa_cons (pv 0) (pa_cons (pv 1) pa_nil))) pa_nil)))), ?_⟩
  refine do_seq (do_drop (K := K) (C := C) (evd_call (eds_cons (evd_var rfl t0) (eds_cons (evd_var rfl t1) eds_nil)) ⟨S, u, rfl, hG.ok, hu, hul, rfl⟩) fun v1 H1 e1 _ => ?_)
  exact do_ret (K := K) (C := C) ((evd_lenT (evd_callT (tab.ex e1) (eds_cons (evd_var rfl (t0.ex e1)) (eds_cons (evd_var rfl (t1.ex e1)) eds_nil)) ⟨S, u, rfl, hG, hu, hul, rfl⟩)).to (by rw [wordD_len])) fun v H2 e2 t => q v H2 (e1.trans e2) t
abbrev s_is_shortest : Stmt := topS 47
theorem sc_is_shortest : FnScope ["system", "value"] ["system", "value"] (defScope s_is_shortest) := ⟨rfl, rfl, rfl, by decide +kernel, rfl, by decide +kernel, by decide +kernel⟩
theorem ok_is_shortest {f : Addr} {fd : FuncData} (F : Fun K "is_shortest" "is_shortest" s_is_shortest f fd) (c_require_system : Cl P w K mg base "require_system" 1 (sp_require_system K C)) (c_is_word_in : Cl P w K mg base "is_word_in" 3 (sp_is_word_in K C)) (c_is_shortest_in : Cl P w K mg base "is_shortest_in" 8 (sp_is_shortest_in Pt K C)) :
    FnOk P w K mg base CX0 9 f fd ["system", "value"] (sp_is_shortest_in Pt K C) := by
  refine F.ok sc_is_shortest (spT_len (n := 2) fun ds d ⟨S, st, h, _⟩ => by rw [h]; rfl) fun cdv A outer s H vs Q E hr h => ?_
  obtain ⟨tab, ds, d, al, ⟨S, u, rfl, hG, hu, hul, rfl⟩, q⟩ := h
  obtain _ | ⟨t0, _ | ⟨t1, _ | _⟩⟩ := al
  have nd := sc_is_shortest.nd
  refine ⟨_, pss_cons (ps_expr (pe_cl c_require_system (hr.mono (by decide)) rfl (pa_cons (pv 0) pa_nil)))
    (pss_one (ps_ret (pe_and (pe_cl c_is_word_in (hr.mono (by decide)) rfl (pa_cons (pv 0) (pa_cons (pv 1) pa_nil))) (pe_one (pe_cl c_is_shortest_in (hr.mono (by decide)) rfl (pa_cons (pv 0) (pa_cons (pv 1) pa_nil))))))), ?_⟩
  refine do_seq (do_drop (K := K) (C := C) (evd_call (eds_cons (evd_var rfl t0) eds_nil) ⟨S, rfl, rfl⟩) fun v1 H1 e1 _ => ?_)
  exact do_ret (K := K) (C := C) ((evd_andV (a := true) (evd_call (eds_cons (evd_var rfl (t0.ex e1)) (eds_cons (evd_var rfl (t1.ex e1)) eds_nil)) ⟨S, u, rfl, hG.ok, hu, hul, rfl⟩) fun _ => evd_callT (tab.ex e1) (eds_cons (evd_var rfl (t0.ex e1)) (eds_cons (evd_var rfl (t1.ex e1)) eds_nil)) ⟨S, u, rfl, hG, hu, hul, rfl⟩).to (by rw [Bool.true_and])) fun v H2 e2 t => q v H2 (e1.trans e2) t
abbrev sp_is_shortest (Pt : Addr) (K : PySem.W.Frag) (C : Addr) : Sp := sp_is_shortest_in Pt K C
end
end UW
namespace UW
open PySem PySem.Spec PyProof.Rows L2 Evl StX SlX ClX RZ
/-! ### a dict of the module with int keys -/
def entB : List DictEntry → List (Int × Value) → Prop
  | [], [] => True
  | e :: es, kv :: kvs => (∃ t, e.key = .int kv.1 t) ∧ e.hash = hashInt kv.1 ∧ e.val = kv.2 ∧ entB es kvs
  | _, _ => False
structure KIDict (K : PySem.W.Frag) (d : Addr) (kvs : List (Int × Value)) : Prop where
  at_ : ∃ es n, K.lookup d = some ⟨.type "dict", none, .dict es n, #[]⟩ ∧ entB es.toList kvs
  low : (d == sysModules) = false
  nd : (kvs.map (·.1)).Nodup
theorem entB_pairs {P : Program} {w : World} : ∀ {es : List DictEntry} {kvs : List (Int × Value)}, entB es kvs → Pairs (PySem.intKind P w) es kvs ∧ ∀ e ∈ es, ∃ k, (PySem.intKind P w).is k e.key = true ∧ e.hash = (PySem.intKind P w).hash k
  | [], [], _ => ⟨.nil, fun _ h => by cases h⟩
  | e :: es, kv :: kvs, h => by
    obtain ⟨⟨t, h1⟩, h2, h3, h4⟩ := h
    obtain ⟨a, b⟩ := entB_pairs h4
    have hk : (PySem.intKind P w).is kv.1 e.key = true := by
      rw [h1]
      show Value.isInt kv.1 (.int kv.1 t) = true
      simp [Value.isInt]
    refine ⟨.cons hk h3 a, fun x hx => ?_⟩
    rcases List.mem_cons.mp hx with rfl | hx
    · exact ⟨kv.1, hk, h2⟩
    · exact b x hx
  | [], _ :: _, h => h.elim
  | _ :: _, [], h => h.elim
section
variable {X : Cx} {pins : List (Addr × Obj)} {σ : L2.St} {H : Hp} {s : Shared} {d : Addr} {kvs : List (Int × Value)}
theorem ki_of (D : KIDict X.K d kvs) (I : Inv X pins σ H s) : s.heap.DictOf (PySem.intKind X.prog X.w) d kvs := by
  obtain ⟨es, n, hl, he⟩ := D.at_
  obtain ⟨a, b⟩ := entB_pairs (P := X.prog) (w := X.w) he
  exact ⟨_, es, n, I.kIn d _ hl, ⟨rfl, rfl, rfl⟩, rfl, fun e h => b e (by simpa using h), a, D.nd⟩
theorem int_is {P : Program} {w : World} {k : Int} {u : Value} (r : L2.RelV (.int k) u) : (PySem.intKind P w).is k u = true := by
  obtain ⟨t, rfl⟩ := r
  show Value.isInt k (.int k t) = true
  simp [Value.isInt]
/-- k in d -/
def rInKI (d : Addr) (kvs : List (Int × Value)) : R2 := fun x y H Q => ∃ k : Int, x = .int k ∧ y = .ref d ∧ Q (.bl (valueAt kvs k).isSome) H
theorem op_inKI (D : KIDict X.K d kvs) : OpR X (compareOp .In) (rInKI d kvs) := by
  intro pins s σ H x y v u Q I rx ry h
  obtain ⟨k, rfl, rfl, q⟩ := h
  cases ry
  refine wpAny_in_of (int_is rx) D.low (ki_of D I).mapOf ?_
  exact ⟨.bl _, H, I.tok _, rfl, q⟩
/-- d[k] -/
def tKI (d : Addr) (kvs : List (Int × Value)) (to tk : TE) : TE := fun σ H Q => to σ H fun x H1 => tk σ H1 fun y H2 => ∃ (k : Int) (u : Value) (v : V), x = .ref d ∧ y = .int k ∧ valueAt kvs k = some u ∧ L2.RelV v u ∧ Q v H2
theorem pe_KI {o i : Expr} {to ti : TE} {pos : Pos} (D : KIDict X.K d kvs) (ho : PE X o to) (hi : PE X i ti) (hs : NoSl i) : PE X (.Subscript o i pos) (tKI d kvs to ti) := by
  refine ⟨fun pins s σ H Q I h => ?_⟩
  refine subD_of PySem.F.slot_dict_getitem.lookup hs (thn (ho.run pins s σ H _ I h) fun u s1 ⟨x, H1, I1, rx, q1⟩ => thn (hi.run pins s1 σ H1 _ I1 q1) fun iv s2 ⟨y, H2, I2, ry, k, u0, v, ex, ey, hv, rv, q2⟩ => ?_)
  subst ex ey
  obtain rfl : u = Value.ref d := rx
  have dd := ki_of D I2
  exact ⟨dd.typeIs, wpAny_getItem_of (int_is ry) dd.mapOf hv ⟨v, H2, I2.tok _, rv, q2⟩⟩
end
/-- the module's FACTORS -/
structure FK (K : PySem.W.Frag) (C d : Addr) (kvs : List (Int × Value)) : Prop where
  di : KIDict K d kvs
  at_ : ∀ b : Nat, isB b → ∃ u v, valueAt kvs (b : Int) = some u ∧ L2.RelV v u ∧ ∀ H, Tp K C H v (.tup [gdD (pairB b).1, gdD (pairB b).2])
section
variable {K : PySem.W.Frag} {C d : Addr} {kvs : List (Int × Value)} {H : Hp} {σ : L2.St} {ta tb : TE}
theorem evd_inKI {b : Nat} (F : FK K C d kvs) (hb : isB b) (h : EvD K C ta σ H (.int (b : Int))) : EvD K C (tOp (rInKI d kvs) ta (tC (.ref d))) σ H (.bl true) := fun H1 e Q q =>
  h H1 e _ fun v H2 e2 t => by
    cases t
    obtain ⟨u, v, hv, _⟩ := F.at_ b hb
    refine ⟨(b : Int), rfl, rfl, ?_⟩
    rw [hv]
    exact q _ H2 e2 (.bl _)
theorem evd_KI {b : Nat} (F : FK K C d kvs) (hb : isB b) (h : EvD K C ta σ H (.int (b : Int))) : EvD K C (tKI d kvs (tC (.ref d)) ta) σ H (.tup [gdD (pairB b).1, gdD (pairB b).2]) := fun H1 e Q q =>
  h H1 e _ fun v H2 e2 t => by
    cases t
    obtain ⟨u, v, hv, rv, tv⟩ := F.at_ b hb
    exact ⟨(b : Int), u, v, rfl, rfl, hv, rv, q _ H2 e2 (tv H2)⟩
end
end UW
namespace UW
open PySem PySem.Spec PyProof.Rows L2 Evl StX SlX ClX RZ
/-! bonds -/
def bondD (b : Bo) : Dt := .tup [.int (b.1 : Int), .int (b.2.1 : Int), .int (b.2.2 : Int)]
def bondsD (bs : List Bo) : Dt := .tup (bs.map bondD)
@[simp] theorem noL_bondD {b : Bo} : noL (bondD b) = true := rfl
@[simp] theorem noL_bondsD {bs : List Bo} : noL (bondsD bs) = true := by unfold bondsD; rw [noL_tup]; exact noLs_map (fun _ => noL_bondD) _
/-- what the module's names hold, further -/
structure TM2 (K : PySem.W.Frag) (mg : Str → Option Value) (C aBONDS aFACTORS : Addr) (kvs : List (Int × Value)) : Prop where
  cBONDS : mg "BONDS" = some (.ref aBONDS)
  bonds : ∀ H, Tp K C H (.ref aBONDS) (.tup (([0, 2, 3, 4, 5, 6] : List Int).map Dt.int))
  cFACTORS : mg "FACTORS" = some (.ref aFACTORS)
  FF : FK K C aFACTORS kvs
  MAX_LETTERS : ∃ t, mg "MAX_LETTERS" = some (.int 4 t)
  PLAIN_BOND : ∃ t, mg "PLAIN_BOND" = some (.int 2 t)
  GOLDEN_BOND : ∃ t, mg "GOLDEN_BOND" = some (.int 5 t)
  MOST_PLACES : ∃ t, mg "MOST_PLACES" = some (.int 5 t)
  MOST_SIGNED : ∃ t, mg "MOST_SIGNED" = some (.int 3 t)
  MOST_RING : ∃ t, mg "MOST_RING" = some (.int 3 t)
section
variable {P : Program} {w : World} {K : PySem.W.Frag} {mg : Str → Option Value} {base : Heap} {C Pt aBONDS aFACTORS : Addr} {kvs : List (Int × Value)}
section
variable {σ : L2.St} {H : Hp} {ta tb : TE} {ns ms : List Int}
theorem evp_int {i : Int} : EvO (tPart (tC (.int i))) σ H (some i) := fun H1 _ _ q => ⟨i, rfl, q H1 (Ex.refl _)⟩
theorem evd_last (M2 : TM2 K mg C aBONDS aFACTORS kvs) : EvD K C (tOp (rIxT K) (tC (.ref aBONDS)) (tUn (rU fun i => .int (-i)) (tC (.int 1)))) σ H (.int 6) := fun H1 e Q q => by
  refine ⟨1, rfl, ?_⟩
  obtain ⟨a, xs, ea, hs, al⟩ := (M2.bonds H1).tup'
  cases ea
  have := al.ints
  subst this
  exact ⟨_, _, -1, .int 6, rfl, rfl, hs, rfl, q _ H1 (Ex.refl _) (.int 6)⟩
theorem evd_ltT (ha : EvD K C ta σ H (.tup (ns.map Dt.int))) (hb : EvD K C tb σ H (.tup (ms.map Dt.int))) : EvD K C (tOp (rLtT K) ta tb) σ H (.bl (HT.lexLt ns ms)) :=
  evd_op ha hb fun x y H1 e tx ty Q q => by
    obtain ⟨a, xs, rfl, hs, al⟩ := tx.tup'
    obtain ⟨b, ys, rfl, hs', al'⟩ := ty.tup'
    have e1 := al.ints
    have e2 := al'.ints
    subst e1 e2
    exact ⟨a, b, ns, ms, rfl, rfl, hs, hs', q _ H1 (Ex.refl _) (.bl _)⟩
end
theorem lex2 {a b : Bo} (h : a.1 < b.1 ∨ (a.1 = b.1 ∧ a.2.1 < b.2.1)) : HT.lexLt [(a.1 : Int), (a.2.1 : Int)] [(b.1 : Int), (b.2.1 : Int)] = true := by
  unfold HT.lexLt
  rcases h with h | ⟨h, h'⟩
  · have : ¬ ((a.1 : Int) = b.1) := by omega
    simp [this]; omega
  · have : (a.1 : Int) = b.1 := by omega
    have h2 : ¬ ((a.2.1 : Int) = b.2.1) := by omega
    simp [this, HT.lexLt, h2]; omega
theorem EvN.to {te : TE} {σ : L2.St} {H : Hp} {ds es : List Dt} (h : EvN K C te σ H ds) (e : ds = es) : EvN K C te σ H es := e ▸ h
/-! is_bond_told -/
abbrev s_is_bond_told : Stmt := topS 32
theorem sc_is_bond_told : FnScope ["letters", "value", "one"] ["letters", "value"] (defScope s_is_bond_told) := ⟨rfl, rfl, rfl, by decide +kernel, rfl, by decide +kernel, by decide +kernel⟩
def R_is_bond_told (ds : List Dt) (d : Dt) : Prop := ∃ (n : Nat) (b : Bo), ds = [.int (n : Int), bondD b] ∧ BOk n b ∧ d = .bl true
abbrev sp_is_bond_told (K : PySem.W.Frag) (C : Addr) : Sp := spP K C R_is_bond_told
theorem ok_is_bond_told {f : Addr} {fd : FuncData} (F : Fun K "is_bond_told" "is_bond_told" s_is_bond_told f fd) (T : Bt mg) (M2 : TM2 K mg C aBONDS aFACTORS kvs) (c_is_within : Cl P w K mg base "is_within" 2 (sp_is_within K C)) : FnOk P w K mg base CX0 3 f fd ["letters", "value"] (sp_is_bond_told K C) := by
  refine F.ok sc_is_bond_told (spP_len (n := 2) fun ds d ⟨S, st, h, _⟩ => by rw [h]; rfl) fun cdv A outer s H vs Q E hr h => ?_
  obtain ⟨ds, d, al, ⟨n, b, rfl, hb, rfl⟩, q⟩ := h
  obtain _ | ⟨t0, _ | ⟨t1, _ | _⟩⟩ := al
  have FF := M2.FF
  have cBONDS := M2.cBONDS
  have cFACTORS := M2.cFACTORS
  have nd := sc_is_bond_told.nd
  refine ⟨_, pss_cons (ps_if (PW.pt (pw_or (pt_not (pt_val (pe_callB call_isi (by rfl) T.isinstance (by decide +kernel) (pa_cons (pv 1) (pa_cons (pe_bltn (v := .ty "tuple") (by rfl) T.tuple (by decide +kernel) rfl) pa_nil))))) (pw_or1 (pt_cmpR op_ne (pe_callB call_len_seq (by rfl) T.len PySem.boot_len (pa_cons (pv 1) pa_nil)) pe_int (nomark _))))) (pss_one (ps_ret pe_bl)) (pss_nil))
    (pss_cons (ps_if (pt_not (pt_val (pe_callB (cr_all rfl) (by rfl) T.all (by decide +kernel) (pa_cons (pe_lc (own := [("one", 2)]) (g := (gName 2)) (tt := tYes) (te := (tCall (sp_is_within K C) [] E0 (tCons (tVar 2) (tCons (tC (.int 0)) (tCons (tOp (rI0 fun i j => .int (i - j)) (tVar 0) (tC (.int 1))) tNil))))) rfl nd (pi_tup (pe_slice sl_tupA (pv 1) po_none (po_some pe_int))) (blkOk_by (own := [("one", 2)]) (N := ["letters", "value", "one"]) (sc := defScope s_is_bond_told) (by decide +kernel)) (fun _ _ _ _ _ => (pg_name (i := 2) nd rfl (Or.inl rfl))) (fun _ _ _ _ _ => pts_nil) (fun _ _ _ _ _ => (pe_cl c_is_within (hr.mono (by decide)) rfl (pa_cons (pv 2) (pa_cons pe_int (pa_cons (pe_op op_sub (pv 0) pe_int) pa_nil)))))) pa_nil)))) (pss_one (ps_ret pe_bl)) (pss_nil))
    (pss_one (ps_ret (pe_and (pe_cmpR op_lt (pe_ix ix_tup (pv 1) pe_int (fun _ _ => rfl)) (pe_ix ix_tup (pv 1) pe_int (fun _ _ => rfl)) (nomark _)) (pe_and (pe_cl c_is_within (hr.mono (by decide)) rfl (pa_cons (pe_ix ix_tup (pv 1) pe_int (fun _ _ => rfl)) (pa_cons pe_int (pa_cons (pe_ix ix_tup (pe_glob (v := .ref aBONDS) rfl cBONDS rfl) (pe_un un_neg pe_int) (fun _ _ => rfl)) pa_nil)))) (pe_one (pe_cmpR (op_inKI FF.di) (pe_ix ix_tup (pv 1) pe_int (fun _ _ => rfl)) (pe_glob (v := .ref aFACTORS) rfl cFACTORS rfl) (by rfl)))))))), ?_⟩
  obtain ⟨b1, b2, b3⟩ := hb
  have wi : ∀ (i j k : Int) (d : Dt), j ≤ i → i ≤ k → d = .bl true → R_is_within [.int i, .int j, .int k] d := fun i j k d h1 h2 hd => ⟨i, j, k, rfl, by rw [hd]; simp [h1, h2]⟩
  have hB6 : b.2.2 ≤ 6 := by rcases b3 with h | h | h | h | h <;> omega
  refine do_seq (do_if (b := (!true || !decide ((([.int (b.1 : Int), .int (b.2.1 : Int), .int (b.2.2 : Int)] : List Dt).length : Int) = 3))) (et_or (et_not (evt_B (evd_isTup (evd_var rfl t1)))) fun _ => evt_test (evd_neI (evd_lenT (evd_var rfl t1)) evd_int)) (fun h => absurd h (by simp)) fun h H1 e1 => ?_)
  refine do_seq (do_if (b := !([true, true] : List Bool).all id) (et_not (evt_B (evd_all (bs := [true, true]) (evn_lc1 (ds := [.int (b.1 : Int), .int (b.2.1 : Int)]) (evi_tup ((evd_sl (evd_var rfl (t1.ex e1)) evp_none evp_int).to rfl)) rfl (by simp) (by simp) (fun _ => rfl) ?_)))) (fun h => absurd h (by decide)) fun h2 H2 e2 => ?_)
  · intro k d e x H4 hd he e4 tx
    have u0 := (t0.ex e1).ex e4
    match k, hd, he with
    | 0, hd, he => cases hd; cases he; exact evd_call (eds_cons (evd_var rfl tx) (eds_cons evd_int (eds_cons (evd_sub (evd_var rfl u0) evd_int) eds_nil))) (wi _ _ _ _ (by omega) (by omega) rfl)
    | 1, hd, he => cases hd; cases he; exact evd_call (eds_cons (evd_var rfl tx) (eds_cons evd_int (eds_cons (evd_sub (evd_var rfl u0) evd_int) eds_nil))) (wi _ _ _ _ (by omega) (by omega) rfl)
    | k + 2, hd, he => simp at hd
  · have u1 := (t1.ex e1).ex e2
    refine do_ret (K := K) (C := C) (d := .bl (decide ((b.1 : Int) < b.2.1) && (true && true))) (evd_andV (evd_lt (evd_ixT (n := 0) (evd_var rfl u1) evd_int rfl rfl) (evd_ixT (n := 1) (evd_var rfl u1) evd_int rfl rfl)) fun _ => evd_andV (evd_call (eds_cons (evd_ixT (n := 2) (evd_var rfl u1) evd_int rfl rfl) (eds_cons evd_int (eds_cons (evd_last M2) eds_nil))) (wi _ _ _ _ (by omega) (by omega) rfl)) fun _ =>
      evd_inKI FF b3 (evd_ixT (n := 2) (evd_var rfl u1) evd_int rfl rfl)) fun v H3 e3 t => q v H3 ((e1.trans e2).trans e3) ?_
    have : (decide ((b.1 : Int) < b.2.1) && (true && true)) = true := by simp; omega
    rw [this] at t
    exact t
/-! are_bonds -/
abbrev s_are_bonds : Stmt := topS 33
theorem sc_are_bonds : FnScope ["letters", "value", "one", "other"] ["letters", "value"] (defScope s_are_bonds) := ⟨rfl, rfl, rfl, by decide +kernel, rfl, by decide +kernel, by decide +kernel⟩
def R_are_bonds (ds : List Dt) (d : Dt) : Prop := ∃ (n : Nat) (bs : List Bo), ds = [.int (n : Int), bondsD bs] ∧ VB n bs ∧ d = .bl true
abbrev sp_are_bonds (K : PySem.W.Frag) (C : Addr) : Sp := spP K C R_are_bonds
theorem ok_are_bonds {f : Addr} {fd : FuncData} (F : Fun K "are_bonds" "are_bonds" s_are_bonds f fd) (T : Bt mg) (c_is_bond_told : Cl P w K mg base "is_bond_told" 3 (sp_is_bond_told K C)) : FnOk P w K mg base CX0 4 f fd ["letters", "value"] (sp_are_bonds K C) := by
  refine F.ok sc_are_bonds (spP_len (n := 2) fun ds d ⟨S, st, h, _⟩ => by rw [h]; rfl) fun cdv A outer s H vs Q E hr h => ?_
  obtain ⟨ds, d, al, ⟨n, bs, rfl, hV, rfl⟩, q⟩ := h
  obtain _ | ⟨t0, _ | ⟨t1, _ | _⟩⟩ := al
  have nd := sc_are_bonds.nd
  refine ⟨_, pss_cons (ps_if (PW.pt (pw_or (pt_not (pt_val (pe_callB call_isi (by rfl) T.isinstance (by decide +kernel) (pa_cons (pv 1) (pa_cons (pe_bltn (v := .ty "tuple") (by rfl) T.tuple (by decide +kernel) rfl) pa_nil))))) (pw_or1 (pt_not (pt_val (pe_callB (cr_all rfl) (by rfl) T.all (by decide +kernel) (pa_cons (pe_lc (own := [("one", 2)]) (g := (gName 2)) (tt := tYes) (te := (tCall (sp_is_bond_told K C) [] E0 (tCons (tVar 0) (tCons (tVar 2) tNil)))) rfl nd (pi_tup (pv 1)) (blkOk_by (own := [("one", 2)]) (N := ["letters", "value", "one", "other"]) (sc := defScope s_are_bonds) (by decide +kernel)) (fun _ _ _ _ _ => (pg_name (i := 2) nd rfl (Or.inl rfl))) (fun _ _ _ _ _ => pts_nil) (fun _ _ _ _ _ => (pe_cl c_is_bond_told (hr.mono (by decide)) rfl (pa_cons (pv 0) (pa_cons (pv 2) pa_nil))))) pa_nil))))))) (pss_one (ps_ret pe_bl)) (pss_nil))
    (pss_one (ps_ret (pe_callB (cr_all rfl) (by rfl) T.all (by decide +kernel) (pa_cons (pe_lc (own := [("one", 2), ("other", 3)]) (g := (gTup K 2 (gCons (gName 2) (gCons (gName 3) gNil)))) (tt := tYes) (te := (tOp (rLtT K) (L2.tSl (rSlA K) (tVar 2) tNoPart (tPart (tC (.int 2)))) (L2.tSl (rSlA K) (tVar 3) tNoPart (tPart (tC (.int 2)))))) rfl nd (pi_zipA (by rfl) T.zip (pa_cons (pv 1) (pa_cons (pe_slice sl_tupA (pv 1) (po_some pe_int) po_none) pa_nil))) (blkOk_by (own := [("one", 2), ("other", 3)]) (N := ["letters", "value", "one", "other"]) (sc := defScope s_are_bonds) (by decide +kernel)) (fun _ _ _ _ _ => (pg_tup rfl (pgs_cons (pg_name (i := 2) nd rfl (Or.inl rfl)) (pgs_cons (pg_name (i := 3) nd rfl (Or.inl rfl)) pgs_nil)))) (fun _ _ _ _ _ => pts_nil) (fun _ _ _ _ _ => (pe_cmpR (op_ltT hr.units0) (pe_slice sl_tupA (pv 2) po_none (po_some pe_int)) (pe_slice sl_tupA (pv 3) po_none (po_some pe_int)) (nomark _)))) pa_nil)))), ?_⟩
  have hz : bs.length < 100000 := by have := hV.few; omega
  refine do_seq (do_if (b := (!true || !(bs.map fun _ => true).all id)) (et_or (et_not (evt_B (evd_isTup (evd_var rfl t1)))) fun _ => et_not (evt_B (evd_all (bs := bs.map fun _ => true) (evn_lc1 (ds := bs.map bondD) (evi_tup (evd_var rfl t1)) (by simp) (by simpa using hz) noLs_bls (fun _ => rfl) ?_)))) (fun h => absurd h (by simp)) fun h H1 e1 => ?_)
  · intro k d e x H4 hd he e4 tx
    rw [List.getElem?_map] at hd
    rw [List.map_map, List.getElem?_map] at he
    cases hk : bs[k]? with
    | none => rw [hk] at hd; simp at hd
    | some b =>
      rw [hk] at hd he
      cases hd
      cases he
      exact evd_call (eds_cons (evd_var rfl (t0.ex e4)) (eds_cons (evd_var rfl tx) eds_nil)) ⟨n, b, rfl, hV.all b (List.mem_of_getElem? hk), rfl⟩
  · have u1 := t1.ex e1
    refine do_ret (K := K) (C := C) (evd_all (bs := List.zipWith (fun _ _ => true) bs (bs.drop 1)) ((evn_zipG (xs := bs) (ys := bs.drop 1) bondD bondD (fun _ _ => Dt.bl true) (fun _ _ => noL_bl) hz (eds_cons (evd_var rfl u1) (eds_cons ((evd_sl (evd_var rfl u1) evp_int evp_none).to (by rw [show (1 : Int) = ((1 : Nat) : Int) from rfl, cutD_drop, List.map_drop])) eds_nil)) (fun _ _ => rfl) fun k a b vx vy H2 h1 h2 e2 tx ty =>
      (evd_ltT (ns := [(a.1 : Int), (a.2.1 : Int)]) (ms := [(b.1 : Int), (b.2.1 : Int)]) ((evd_sl (evd_var rfl tx) evp_none evp_int).to rfl) ((evd_sl (evd_var rfl ty) evp_none evp_int).to rfl)).to (by
        rw [List.getElem?_drop, Nat.add_comm] at h2
        have ha := hV.asc k a b h1 h2
        congr 1
        exact lex2 ha)).to (by rw [List.map_zipWith]))) fun v H3 e3 t => q v H3 (e1.trans e3) ?_
    · have : (List.zipWith (fun (_ _ : Bo) => true) bs (bs.drop 1)).all id = true := by
        rw [List.all_eq_true]
        intro x hx
        obtain ⟨k, hk⟩ := List.getElem?_of_mem hx
        rw [List.getElem?_zipWith] at hk
        cases h1 : bs[k]? with
        | none => rw [h1] at hk; simp at hk
        | some a =>
          cases h2 : (bs.drop 1)[k]? with
          | none => rw [h1, h2] at hk; simp at hk
          | some b => rw [h1, h2] at hk; simp at hk; rw [← hk]; rfl
      rw [this] at t
      exact t
end
end UW
namespace UW
open PySem PySem.Spec PyProof.Rows L2 Evl StX SlX ClX RZ
/-- the scope of the comprehension in the i-th statement -/
def scopeAt (st : Stmt) (i : Nat) : Scope := match (defBody st)[i]? with
  | some (.Assign _ (.ListComp _ _ sc _) _) => sc
  | some (.Return (some (.Call _ [.ListComp _ _ sc _] _ _)) _) => sc
  | _ => { kind := .function, names := [], isGenerator := false, isCoroutine := false }
/-! ### a list of lists of numbers, each list its own -/
structure Mat (K : PySem.W.Frag) (C : Addr) (H : Hp) (p : Addr) (F : List (List Gd)) (as : List Addr) : Prop where
  len : as.length = F.length
  nd : as.Nodup
  out : p ∉ as
  top : H p = some (.lst (as.map V.ref))
  row : ∀ (i : Nat) (a : Addr) (fs : List Gd), as[i]? = some a → F[i]? = some fs → ∃ xs, H a = some (.lst xs) ∧ TpAll K C H xs (fs.map gdD)
theorem noLs_gds (fs : List Gd) : noLs (fs.map gdD) = true := noLs_map (fun _ => noL_gdD) fs
section
variable {K : PySem.W.Frag} {C : Addr} {H H' : Hp} {σ : L2.St} {ta tb tc te : TE} {d : Dt} {ds es : List Dt} {p : Addr} {F : List (List Gd)} {as : List Addr} {wi : TI}
theorem Mat.ex (e : Ex H H') (m : Mat K C H p F as) : Mat K C H' p F as :=
  ⟨m.len, m.nd, m.out, ex_lst e m.top, fun i a fs h1 h2 => by
    obtain ⟨xs, hx, al⟩ := m.row i a fs h1 h2
    exact ⟨xs, ex_lst e hx, al.ex e⟩⟩
theorem Mat.tp (m : Mat K C H p F as) : Tp K C H (.ref p) (facL F) := by
  refine .lst (sq_of m.top) (TpAll.of (by simp [m.len]) fun i v d h1 h2 => ?_)
  rw [List.getElem?_map] at h1 h2
  cases ha : as[i]? with
  | none => rw [ha] at h1; cases h1
  | some a =>
    cases hf : F[i]? with
    | none => rw [hf] at h2; cases h2
    | some fs =>
      rw [ha] at h1
      rw [hf] at h2
      cases h1; cases h2
      obtain ⟨xs, hx, al⟩ := m.row i a fs ha hf
      exact .lst (sq_of hx) al
/-- another list changes -/
theorem Mat.other {b : Addr} {o : HO} (hb : ∃ xs, H b = some (.lst xs)) (h1 : b ≠ p) (h2 : b ∉ as) (m : Mat K C H p F as) : Mat K C (upd H b o) p F as :=
  ⟨m.len, m.nd, m.out, by rw [upd_ne (Ne.symm h1)]; exact m.top, fun i a fs e1 e2 => by
    obtain ⟨xs, hx, al⟩ := m.row i a fs e1 e2
    have ne : a ≠ b := fun z => h2 (z ▸ List.mem_of_getElem? e1)
    exact ⟨xs, by rw [upd_ne ne]; exact hx, al.upd hb (noLs_gds fs)⟩⟩
/-- one place is written -/
theorem Mat.put {i j : Nat} {a : Addr} {fs : List Gd} {xs : List V} {v : V} {g : Gd} (m : Mat K C H p F as) (hi : as[i]? = some a) (hf : F[i]? = some fs) (hx : H a = some (.lst xs)) (al : TpAll K C H xs (fs.map gdD)) (tv : Tp K C H v (gdD g)) :
    Mat K C (upd H a (.lst (xs.set j v))) p (setF F i j g) as := by
  have hil : i < F.length := (List.getElem?_eq_some_iff.mp hf).1
  have hfD : F.getD i [] = fs := by simp [hf]
  have ap : a ≠ p := fun z => m.out (z ▸ List.mem_of_getElem? hi)
  refine ⟨by unfold setF; simp [m.len], m.nd, m.out, by rw [upd_ne (Ne.symm ap)]; exact m.top, fun k b gs e1 e2 => ?_⟩
  unfold setF at e2
  rw [hfD, List.getElem?_set] at e2
  by_cases hk : i = k
  · subst hk
    rw [if_pos rfl, if_pos hil] at e2
    cases e2
    rw [hi] at e1
    cases e1
    refine ⟨_, upd_same, ?_⟩
    rw [List.map_set]
    have al2 := al.set (l := j) tv
    exact al2.upd ⟨xs, hx⟩ (by rw [← List.map_set]; exact noLs_gds _)
  · rw [if_neg hk] at e2
    have ne : b ≠ a := fun z => hk (by
      subst z
      have h1 : i < as.length := (List.getElem?_eq_some_iff.mp hi).1
      have h2 : k < as.length := (List.getElem?_eq_some_iff.mp e1).1
      have q1 := (List.getElem?_eq_some_iff.mp hi).2
      have q2 := (List.getElem?_eq_some_iff.mp e1).2
      exact (List.getElem_inj m.nd).mp (q1.trans q2.symm))
    obtain ⟨ys, hy, aly⟩ := m.row k b gs e1 e2
    exact ⟨ys, by rw [upd_ne ne]; exact hy, aly.upd ⟨xs, hx⟩ (noLs_gds _)⟩
def EvM (K : PySem.W.Frag) (C : Addr) (te : TE) (σ : L2.St) (H : Hp) (F : List (List Gd)) : Prop :=
  ∀ H1, Ex H H1 → ∀ Q : VK, (∀ p as H2, H1 p = none → (∀ a ∈ as, H1 a = none) → Ex H1 H2 → Mat K C H2 p F as → Q (.ref p) H2) → te σ H1 Q
/-- a comprehension that gives such a list -/
theorem evm_lc {g : TG} {vs : List Nat} (hi : EvI K C wi σ H ds) (hl : ds.length = F.length) (hz : ds.length < 100000)
    (hs : ∀ (k : Nat) (d : Dt) (fs : List Gd) (x : V) (H1 : Hp), ds[k]? = some d → F[k]? = some fs → Ex H H1 → Tp K C H1 x d →
      ∃ σ2, (∀ Q : L2.St → Hp → Prop, Q σ2 H1 → g x (wipe σ vs) H1 Q) ∧ wipe σ2 vs = wipe σ vs ∧ EvN K C te σ2 H1 (fs.map gdD)) :
    EvM K C (tLc wi g tYes te vs) σ H F := by
  intro H1 e1 Q q
  refine hi H1 e1 _ fun J H2 e2 w D hD => ?_
  have W : Walk J ds.length (fun H => Ex H2 H) (fun k H x H' => Ex H H' ∧ ∃ d, ds[k]? = some d ∧ Tp K C H' x d) :=
    ⟨fun k H' hk e => w.goes k H' hk e, fun H' e => w.stops H' e, fun k H' x H'' hk e y => w.yields k H' x H'' hk e y⟩
  refine lc_it W (fun k H' => Ex H2 H' ∧ k ≤ ds.length ∧ ∃ as, (∀ a ∈ as, H2 a = none) ∧ Mat K C H' D (F.take k) as) ⟨Ex.new hD, Nat.zero_le _, [], (fun a h => nomatch h), ⟨by simp, List.nodup_nil, by simp, upd_same, fun i a fs h => by simp at h⟩⟩ (fun k H' _ h => h.1) ?_ ?_
  · rintro k x H' H'' hk ⟨e3, _, as, hf, m⟩ ⟨e4, d, hd, td⟩
    obtain ⟨fs, hfs⟩ : ∃ fs, F[k]? = some fs := ⟨F[k]'(by omega), List.getElem?_eq_getElem _⟩
    obtain ⟨σ2, hg, hw, ev⟩ := hs k d fs x H'' hd hfs (((e1.trans e2).trans e3).trans e4) td
    refine hg _ ⟨hw, ?_⟩
    unfold tYes
    dsimp only
    rw [if_pos rfl]
    refine ev H'' (Ex.refl _) _ fun b ys H4 hb e5 hy aly => ?_
    have m4 := m.ex (e4.trans e5)
    have m3 := m.ex e4
    have lenA : as.length = k := by rw [m.len, List.length_take]; omega
    have bnew : ∀ a ∈ D :: as, a ≠ b := fun a ha z => by
      have : ∃ o, H'' a = some o := by
        rcases List.mem_cons.mp ha with h | h
        · exact ⟨_, h ▸ m3.top⟩
        · obtain ⟨i, hi⟩ := List.getElem?_of_mem h
          have hil : i < as.length := (List.getElem?_eq_some_iff.mp hi).1
          obtain ⟨xs, hx, _⟩ := m3.row i a ((F.take k)[i]'(by rw [← m.len]; exact hil)) hi (List.getElem?_eq_getElem _)
          exact ⟨_, hx⟩
      obtain ⟨o, ho⟩ := this
      rw [z, hb] at ho; cases ho
    refine ⟨as.map V.ref, m4.top, sz_lt (by rw [List.length_map, lenA]; omega), ?_, by omega, as ++ [b], ?_, ?_⟩
    · exact ((e3.trans e4).trans e5).mut hD
    · intro a ha
      rcases List.mem_append.mp ha with h | h
      · exact hf a h
      · rw [List.mem_singleton.mp h]
        exact fresh_back (e3.trans e4) hb
    · have hbD : b ≠ D := Ne.symm (bnew D (by simp))
      have htk : F.take (k + 1) = F.take k ++ [fs] := by rw [List.take_add_one, hfs]; rfl
      refine ⟨by rw [htk]; simp [m.len], ?_, ?_, by rw [upd_same]; simp, fun i a gs h1 h2 => ?_⟩
      · rw [List.nodup_append]
        exact ⟨m.nd, by simp, fun x hx y hy => by rw [List.mem_singleton.mp hy]; exact bnew x (by simp [hx])⟩
      · intro z
        rcases List.mem_append.mp z with h | h
        · exact m.out h
        · exact hbD (List.mem_singleton.mp h).symm
      · rw [htk] at h2
        by_cases hik : i < k
        · rw [List.getElem?_append_left (by omega)] at h1
          rw [List.getElem?_append_left (by rw [List.length_take]; omega)] at h2
          obtain ⟨xs, hx, al⟩ := m4.row i a gs h1 h2
          have aD : a ≠ D := fun z => m.out (z ▸ List.mem_of_getElem? h1)
          exact ⟨xs, by rw [upd_ne aD]; exact hx, al.upd ⟨_, m4.top⟩ (noLs_gds gs)⟩
        · rw [List.getElem?_append_right (by omega)] at h1
          rw [List.getElem?_append_right (by rw [List.length_take]; omega)] at h2
          have hi0 : i - as.length = 0 := by
            cases hq : i - as.length with
            | zero => rfl
            | succ n => rw [hq] at h1; simp at h1
          have hi1 : i - (F.take k).length = 0 := by rw [← m.len]; exact hi0
          rw [hi0] at h1
          rw [hi1] at h2
          simp at h1 h2
          subst h1 h2
          exact ⟨ys, by rw [upd_ne hbD]; exact hy, aly.upd ⟨_, m4.top⟩ (noLs_gds _)⟩
  · rintro H' ⟨e3, _, as, hf, m⟩
    rw [hl, List.take_length] at m
    exact q D as H' (fresh_back e2 hD) (fun a ha => fresh_back e2 (hf a ha)) (e2.trans e3) m
/-- found[i][j] = .. -/
theorem g_mat {n ni nj i j : Nat} {v : V} {g : Gd} {Q : L2.St → Hp → Prop} (h0 : σ[n]? = some (some (.ref p))) (h1 : σ[ni]? = some (some (.int (i : Int)))) (h2 : σ[nj]? = some (some (.int (j : Int)))) (m : Mat K C H p F as) (hi : i < F.length) (hj : ∀ fs, F[i]? = some fs → j < fs.length) (tv : Tp K C H v (gdD g))
    (q : ∀ (a : Addr) (xs ys : List V), a ∈ as → H a = some (.lst xs) → Mat K C (upd H a (.lst ys)) p (setF F i j g) as → Q σ (upd H a (.lst ys))) :
    gSub (tOp (rIxL K) (tVar n) (tVar ni)) (tVar nj) rSetL v σ H Q := by
  obtain ⟨fs, hf⟩ : ∃ fs, F[i]? = some fs := ⟨_, List.getElem?_eq_getElem hi⟩
  obtain ⟨a, ha⟩ : ∃ a, as[i]? = some a := ⟨as[i]'(by rw [m.len]; exact hi), List.getElem?_eq_getElem _⟩
  obtain ⟨xs, hx, al⟩ := m.row i a fs ha hf
  refine ⟨_, h0, _, h1, p, _, (i : Int), .ref a, rfl, rfl, sq_of m.top, atI_nat (by rw [List.getElem?_map, ha]; rfl), _, h2, a, xs, (j : Int), j, rfl, rfl, hx, ixN_nat (by rw [al.length, List.length_map]; exact hj fs hf), ?_⟩
  exact q a xs _ (List.mem_of_getElem? ha) hx (m.put ha hf hx al tv)
end
end UW
namespace UW
open PySem PySem.Spec PyProof.Rows L2 Evl StX SlX ClX RZ
section
variable {P : Program} {w : World} {K : PySem.W.Frag} {mg : Str → Option Value} {base : Heap} {C Pt aBONDS aFACTORS : Addr} {kvs : List (Int × Value)}
theorem do_setM {te : TE} {σ : L2.St} {H : Hp} {D : Ends} {F : List (List Gd)} {n : Nat} (h : EvM K C te σ H F) (q : ∀ p as H', H p = none → (∀ a ∈ as, H a = none) → Ex H H' → Mat K C H' p F as → D.nx (σ.set n (some (.ref p))) H') : tAsg te (gName n) D σ H := h H (Ex.refl _) _ q
/-! factors_by -/
abbrev s_factors_by : Stmt := topS 34
theorem sc_factors_by : FnScope ["letters", "bonds", "found", "one", "other", "low", "high", "bond", "row"] ["letters", "bonds"] (defScope s_factors_by) := ⟨rfl, rfl, rfl, by decide +kernel, rfl, by decide +kernel, by decide +kernel⟩
def R_factors_by (ds : List Dt) (d : Dt) : Prop := ∃ (n : Nat) (bs : List Bo), ds = [.int (n : Int), bondsD bs] ∧ VB n bs ∧ d = facD (facs n bs)
abbrev sp_factors_by (K : PySem.W.Frag) (C : Addr) : Sp := spP K C R_factors_by
theorem ok_factors_by {f : Addr} {fd : FuncData} (F : Fun K "factors_by" "factors_by" s_factors_by f fd) (T : Bt mg) (M2 : TM2 K mg C aBONDS aFACTORS kvs) : FnOk P w K mg base CX0 1 f fd ["letters", "bonds"] (sp_factors_by K C) := by
  refine F.ok sc_factors_by (spP_len (n := 2) fun ds d ⟨S, st, h, _⟩ => by rw [h]; rfl) fun cdv A outer s H vs Q E hr h => ?_
  obtain ⟨ds, d, al, ⟨n, bs, rfl, hV, rfl⟩, q⟩ := h
  obtain _ | ⟨t0, _ | ⟨t1, _ | _⟩⟩ := al
  rename_i x0 x1
  have FF := M2.FF
  have cFACTORS := M2.cFACTORS
  have nd := sc_factors_by.nd
  refine ⟨_, pss_cons (ps_setLc (i := 2) (own := [("one", 3)]) (g := (gName 3)) (tt := tYes) (te := (tLc (iRng1 (tCons (tVar 0) tNil)) (gName 4) tYes (tTup (tCons (tC (.int 0)) (tCons (tC (.int 0)) tNil))) [4])) rfl nd rfl rfl (sw_true rfl rfl rfl (by decide +kernel)) (pi_range1 (by rfl) T.range (pa_cons (pv 0) pa_nil)) (blkOk_by (own := [("one", 3)]) (N := ["letters", "bonds", "found", "one", "other", "low", "high", "bond", "row"]) (sc := defScope s_factors_by) (by decide +kernel)) (fun _ _ _ _ _ => (pg_name (i := 3) nd rfl (Or.inl rfl))) (fun _ _ _ _ _ => pts_nil) (fun _ _ _ _ _ => (pe_lc (own := [("other", 4)]) (g := (gName 4)) (tt := tYes) (te := (tTup (tCons (tC (.int 0)) (tCons (tC (.int 0)) tNil)))) rfl nd (pi_range1 (by rfl) T.range (pa_cons (pv 0) pa_nil)) (blkOk_by (own := [("other", 4)]) (N := ["letters", "bonds", "found", "one", "other", "low", "high", "bond", "row"]) (sc := relS (scopeAt s_factors_by 0) (defScope s_factors_by)) (by decide +kernel)) (fun _ _ _ _ _ => (pg_name (i := 4) nd rfl (Or.inl rfl))) (fun _ _ _ _ _ => pts_nil) (fun _ _ _ _ _ => (pe_tup (pa_cons pe_int (pa_cons pe_int pa_nil)))))))
    (pss_cons (ps_for PassesOwn.never rfl (pi_tup (pv 1)) (pg_tup rfl (pgs_cons (pg_name (i := 5) nd rfl (Or.inl rfl)) (pgs_cons (pg_name (i := 6) nd rfl (Or.inl rfl)) (pgs_cons (pg_name (i := 7) nd rfl (Or.inl rfl)) pgs_nil)))) (pss_one (ps_asg (pe_KI FF.di (pe_glob (v := .ref aFACTORS) rfl cFACTORS rfl) (pv 7) (fun _ _ => rfl)) (pg_tup rfl (pgs_cons (pg_sub (pe_ix ix_list (pv 2) (pv 5) (fun _ _ => rfl)) (pv 6) set_list) (pgs_cons (pg_sub (pe_ix ix_list (pv 2) (pv 6) (fun _ _ => rfl)) (pv 5) set_list) pgs_nil))))))
    (pss_one (ps_ret (pe_callTy call_tuple_of (by rfl) T.tuple (by decide +kernel) (pa_cons (pe_lc (own := [("row", 8)]) (g := (gName 8)) (tt := tYes) (te := (tCB (rTupOf K) (tCons (tVar 8) tNil))) rfl nd (pi_list (pv 2)) (blkOk_by (own := [("row", 8)]) (N := ["letters", "bonds", "found", "one", "other", "low", "high", "bond", "row"]) (sc := defScope s_factors_by) (by decide +kernel)) (fun _ _ _ _ _ => (pg_name (i := 8) nd rfl (Or.inl rfl))) (fun _ _ _ _ _ => pts_nil) (fun _ _ _ _ _ => (pe_callTy call_tuple_of (by rfl) T.tuple (by decide +kernel) (pa_cons (pv 8) pa_nil)))) pa_nil))))), ?_⟩
  have hn4 := hV.n4
  refine do_seq (do_setM (K := K) (C := C) (F := zeroF n) (evm_lc (ds := rngD 0 n) (evi_rng1 (eds_cons (evd_var rfl t0) eds_nil) (by omega)).w (by simp [rngD_len, zeroF]) (by rw [rngD_len]; omega) fun k d fs x H1 hd hfs e1 tx => ⟨_, fun Q q => q, rfl, ?_⟩) fun p as H1 hp has e1 m => ?_)
  · have hk : k < n := by
      have := (List.getElem?_eq_some_iff.mp hd).1
      rwa [rngD_len] at this
    have : fs = List.replicate n 0 := by
      unfold zeroF at hfs
      rw [List.getElem?_replicate, if_pos hk] at hfs
      exact (Option.some.inj hfs).symm
    subst this
    refine evn_lc1 (ds := rngD 0 n) (evi_rng1 (eds_cons (evd_var rfl (t0.ex e1)) eds_nil) (by omega)).w (by simp [rngD_len]) (by rw [rngD_len]; omega) (noLs_gds _) (fun _ => rfl) fun j d e y H2 hd he e2 ty => ?_
    rw [List.getElem?_map, List.getElem?_replicate] at he
    split at he
    · cases he
      exact evd_tup (eds_cons evd_int (eds_cons evd_int eds_nil)) (by simp)
    · cases he
  let Pv : Nat → L2.St → Hp → Prop := fun k σ H' => Ex H H' ∧ Mat K C H' p ((bs.take k).foldl putB (zeroF n)) as ∧ ∃ (o3 o4 o5 o6 o7 o8 : Option V), σ = [some x0, some x1, some (.ref p), o3, o4, o5, o6, o7, o8]
  refine do_seq (do_for (K := K) (C := C) (ds := bs.map bondD) (H' := H) (evib_tup rfl t1) e1 Pv (fun H2 e2 => ⟨e1.trans e2, m.ex e2, none, none, none, none, none, none, rfl⟩) (fun k σ2 H2 z => z.1) ?_ ?_)
  · rintro k d x σ2 H2 H3 hd ⟨e2, m2, o3, o4, o5, o6, o7, o8, rfl⟩ e3 tx
    rw [List.getElem?_map] at hd
    cases hb : bs[k]? with
    | none => rw [hb] at hd; simp at hd
    | some b =>
      rw [hb] at hd
      cases hd
      obtain ⟨b1, b2, b3⟩ := hV.all b (List.mem_of_getElem? hb)
      refine g_three tx fun y1 y2 y3 ty1 ty2 ty3 => ?_
      have q1 := ty1.int'
      have q2 := ty2.int'
      subst q1 q2
      refine evd_KI (C := C) FF b3 (evd_var rfl ty3) H3 (Ex.refl _) _ fun v H4 e4 tv => ?_
      obtain ⟨c, xs, rfl, hs, al⟩ := tv.tup'
      obtain _ | ⟨tv1, _ | ⟨tv2, _ | _⟩⟩ := al
      have m4 := m2.ex (e3.trans e4)
      have e24 := (e2.trans e3).trans e4
      have W0 := wf_fold (n := n) (bs.take k)
      have W1 := wf_set W0 b.1 b.2.1 (pairB b.2.2).1
      refine ⟨c, _, rfl, hs, rfl, _, _, rfl, g_mat rfl rfl rfl m4 (i := b.1) (j := b.2.1) (by rw [W0.len]; omega) (fun fs hfs => ?_) tv1 fun a zs ys ha hz m5 => ?_⟩
      · have := W0.rows b.1 (by omega)
        rw [show (List.foldl putB (zeroF n) (List.take k bs)).getD b.1 [] = fs from by simp [hfs]] at this
        omega
      · have e5 : Ex H (upd H4 a (.lst ys)) := e24.mut (fresh_back (Ex.refl _) (has a ha))
        have tv2' := tv2.upd (p := a) (o := .lst ys) ⟨zs, hz⟩ noL_gdD
        refine ⟨_, _, rfl, g_mat rfl rfl rfl m5 (i := b.2.1) (j := b.1) (by rw [W1.len]; omega) (fun fs hfs => ?_) tv2' fun a' zs' ys' ha' hz' m6 => ?_⟩
        · have := W1.rows b.2.1 (by omega)
          rw [show (setF (List.foldl putB (zeroF n) (List.take k bs)) b.1 b.2.1 (pairB b.2.2).1).getD b.2.1 [] = fs from by simp [hfs]] at this
          omega
        · refine ⟨rfl, e5.mut (has a' ha'), ?_, _, _, _, _, _, _, rfl⟩
          rw [List.take_add_one, hb, Option.toList_some, List.foldl_append]
          exact m6
  · rintro σ2 H2 ⟨e2, m2, o3, o4, o5, o6, o7, o8, rfl⟩
    rw [List.length_map, List.take_length] at m2
    have G : Mat K C H2 p (facs n bs) as := m2
    have hl : (facs n bs).length = n := (wf_fold (n := n) bs).len
    refine do_ret (K := K) (C := C) (evd_tuple (ds := (facs n bs).map rowD) (evn_lc1 (ds := (facs n bs).map fun r => Dt.lst (r.map gdD)) (evi_lst (evd_var rfl G.tp)) (by simp) (by rw [List.length_map, hl]; omega) (noLs_map (fun _ => noL_rowD) _) (fun _ => rfl) fun k d e x H3 hd he e3 tx => ?_)) fun v H3 e3 t => q v H3 (e2.trans e3) t
    rw [List.getElem?_map] at hd he
    cases hk : (facs n bs)[k]? with
    | none => rw [hk] at hd; simp at hd
    | some r =>
      rw [hk] at hd he
      cases hd; cases he
      exact evd_tupleL (evd_var rfl tx)
end
end UW
namespace UW
open PySem PySem.Spec PyProof.Rows L2 Evl StX SlX ClX RZ
mutual
/-- tuples of what is no list and no system -/
def noLS : Dt → Bool
  | .tup ds => noLSs ds
  | .lst _ => false
  | .non => true
  | .bl _ => true
  | .int _ => true
  | .sys _ => false
def noLSs : List Dt → Bool
  | [] => true
  | d :: ds => noLS d && noLSs ds
end
theorem noLSs_iff : ∀ {ds : List Dt}, noLSs ds = true ↔ ∀ d ∈ ds, noLS d = true
  | [] => by simp [noLSs]
  | d :: ds => by
    simp only [noLSs, Bool.and_eq_true, List.mem_cons, forall_eq_or_imp]
    rw [noLSs_iff]
theorem noLSs_map {α : Type} {f : α → Dt} (h : ∀ x, noLS (f x) = true) (xs : List α) : noLSs (xs.map f) = true := by
  rw [noLSs_iff]; intro d hd; obtain ⟨x, _, rfl⟩ := List.mem_map.mp hd; exact h x
theorem noLS_tup {ds : List Dt} : noLS (.tup ds) = noLSs ds := by simp [noLS]
theorem noLS_fac {F : List (List Gd)} : noLS (facD F) = true := by
  unfold facD
  rw [noLS_tup]
  refine noLSs_map (fun r => ?_) F
  unfold rowD
  rw [noLS_tup]
  exact noLSs_map (fun x => by unfold gdD; simp [noLS, noLSs]) r
section
variable {K : PySem.W.Frag} {C : Addr} {H : Hp}
mutual
theorem Tp.off {b : Addr} {o : HO} (hb : ∀ xs, ¬ L2.Rd H b (.tup xs)) : ∀ {v : V} {d : Dt}, noLS d = true → Tp K C H v d → Tp K C (L2.upd H b o) v d
  | _, _, _, .non => .non
  | _, _, _, .bl x => .bl x
  | _, _, _, .int i => .int i
  | _, _, n, .tup (a := a) (xs := xs) h al => .tup (by
      rcases h with h | h
      · have ne : a ≠ b := fun z => hb xs (z ▸ h)
        rcases h with h | ⟨ob, h⟩
        · exact .inl (.inl (by rw [upd_ne ne]; exact h))
        · exact .inl (.inr ⟨ob, by rw [upd_ne ne]; exact h⟩)
      · exact .inr h) (TpAll.off hb (by simpa [noLS] using n) al)
  | _, _, n, .lst h a => by simp [noLS] at n
  | _, _, n, .sys h1 h2 f => by simp [noLS] at n
theorem TpAll.off {b : Addr} {o : HO} (hb : ∀ xs, ¬ L2.Rd H b (.tup xs)) : ∀ {vs : List V} {ds : List Dt}, noLSs ds = true → TpAll K C H vs ds → TpAll K C (L2.upd H b o) vs ds
  | _, _, _, .nil => .nil
  | _, _, n, .cons h t => by
      simp only [noLSs, Bool.and_eq_true] at n
      exact .cons (Tp.off hb n.1 h) (TpAll.off hb n.2 t)
end
/-- a store into an instance -/
theorem tp_slH {a dx : Addr} {vs vs' : List (Option V)} {v : V} {d : Dt} (h1 : H a = some (SlO a C dx vs)) (h2 : H dx = some (.xd [])) (ne : dx ≠ a) (n : noLS d = true) (t : Tp K C H v d) : Tp K C (slH H a C dx vs') v d := by
  unfold slH
  have n1 : ∀ xs, ¬ L2.Rd H dx (.tup xs) := by
    rintro xs (z | ⟨o, z⟩) <;> (rw [h2] at z; cases z)
  have n2 : ∀ xs, ¬ L2.Rd (upd H dx (.xd [])) a (.tup xs) := by
    rintro xs (z | ⟨o, z⟩)
    · rw [upd_ne (Ne.symm ne), h1] at z
      unfold SlO at z; cases z
    · rw [upd_ne (Ne.symm ne), h1] at z
      unfold SlO at z; cases z
  exact Tp.off n2 n (Tp.off n1 n t)
theorem ex_slH {H0 : Hp} {a dx : Addr} {vs' : List (Option V)} (e : Ex H0 H) (h1 : H0 a = none) (h2 : H0 dx = none) : Ex H0 (slH H a C dx vs') := (e.mut h2).mut h1
end
def mkS (n : Nat) (bs : List Bo) : Sy := ⟨n, facs n bs, goldB bs⟩
theorem mkS_ok {n : Nat} {bs : List Bo} (hV : VB n bs) : SyG (mkS n bs) := ⟨facs_ok hV, facs_sys hV⟩
/-- C(letters, bonds): the new instance x, its dict at dx, was not there in H0 -/
def spInit (K : PySem.W.Frag) (C : Addr) : Sp := fun vs H Q _ => ∃ (H0 : Hp) (x dx : Addr) (n : Nat) (bs : List Bo) (vb : V), vs = [.ref x, .int (n : Int), vb] ∧ H0 x = none ∧ H0 dx = none ∧ dx ≠ x ∧ Ex H0 H ∧ H x = some (.ins C dx []) ∧ Tp K C H0 vb (bondsD bs) ∧ VB n bs ∧
  ∀ H', Ex H0 H' → Tp K C H' (.ref x) (.sys (mkS n bs)) → Q .non H'
section
variable {P : Program} {w : World} {K : PySem.W.Frag} {mg : Str → Option Value} {base : Heap} {C Pt aBONDS aFACTORS : Addr} {kvs : List (Int × Value)}
section
variable {H : Hp} {σ : L2.St} {tv : TE} {D : Ends} {d : Dt}
theorem do_sl {a dx p : Addr} {vs : List (Option V)} {n i : Nat} {f : Str} (Ts : TS0 K C) (hp : Slot1 K C f p i) (hv : σ[n]? = some (some (.ref a))) (hs : ∀ H', Ex H H' → Slt H' a C dx vs) (h : EvD K C tv σ H d) (q : ∀ v H', Ex H H' → Tp K C H' v d → D.nx σ (slH H' a C dx (putS i v vs))) :
    sSl K (tVar n) tv f D σ H := h H (Ex.refl _) _ fun v H2 e2 t => ⟨_, hv, a, C, dx, p, vs, i, rfl, hs H2 e2, Ts.cls, hp, q v H2 e2 t⟩
theorem slt_ex {a dx : Addr} {vs : List (Option V)} {H' : Hp} (e : Ex H H') (h1 : H a = some (SlO a C dx vs)) (h2 : H dx = some (.xd [])) : Slt H' a C dx vs := .inr ⟨e.all _ _ h1 slO_tbl, e.all _ _ h2 fun ps z => by cases z⟩
end
/-! System.__init__ -/
abbrev s_System___init__ : Stmt := inClass (topS 36) 1
theorem sc_System___init__ : FnScope ["self", "letters", "bonds", "low", "high", "bond"] ["self", "letters", "bonds"] (defScope s_System___init__) := ⟨rfl, rfl, rfl, by decide +kernel, rfl, by decide +kernel, by decide +kernel⟩
theorem ok_init {f : Addr} {fd : FuncData} {vd : V} (F : FunD K "__init__" "System.__init__" (defArgs s_System___init__) (defBody s_System___init__) (defScope s_System___init__) [vd] [] f fd) (T : Bt mg) (Ts : TS0 K C) (M2 : TM2 K mg C aBONDS aFACTORS kvs) (c_is_within : Cl P w K mg base "is_within" 2 (sp_is_within K C))
    (c_are_bonds : Cl P w K mg base "are_bonds" 4 (sp_are_bonds K C)) (c_factors_by : Cl P w K mg base "factors_by" 1 (sp_factors_by K C)) : FnOk P w K mg base CX0 5 f fd ["self", "letters", "bonds"] (spInit K C) := by
  refine F.ok sc_System___init__ (fun vs H Q E ⟨H0, x, dx, n, bs, vb, h, _⟩ => by rw [h]; rfl) fun cdv A outer s H vs Q E hr h => ?_
  obtain ⟨H0, x, dx, n, bs, vb, rfl, hx, hdx, ne, e0, hin, tb, hV, q⟩ := h
  suffices hh : ∃ t, PSs (cxOf CX0 P w K mg base ["self", "letters", "bonds", "low", "high", "bond"] "System.__init__" (defScope s_System___init__) f cdv A outer s H E).nox (defBody s_System___init__) t ∧ t { nx := fun _ H' => Q .non H', rt := Q } (L2.start ["self", "letters", "bonds", "low", "high", "bond"] [V.ref x, V.int (n : Int), vb]) H by
    obtain ⟨t, h1, h2⟩ := hh
    exact ⟨t, h1.nox, h2⟩
  obtain ⟨tk1, cMAX_LETTERS⟩ := M2.MAX_LETTERS
  obtain ⟨tk2, cGOLDEN_BOND⟩ := M2.GOLDEN_BOND
  obtain ⟨p3, hp3⟩ := Ts.l
  obtain ⟨p1, hp1⟩ := Ts.f
  obtain ⟨p2, hp2⟩ := Ts.g
  obtain ⟨p0, hp0⟩ := Ts.b
  have nd := sc_System___init__.nd
  refine ⟨_, pss_cons (ps_if (pt_not (pt_val (pe_cl c_is_within (hr.mono (by decide)) rfl (pa_cons (pv 1) (pa_cons pe_int (pa_cons (pe_glob (v := .int 4) rfl cMAX_LETTERS ⟨_, rfl⟩) pa_nil)))))) (pss_one ps_never) (pss_nil))
    (pss_cons (ps_if (pt_not (pt_val (pe_cl c_are_bonds (hr.mono (by decide)) rfl (pa_cons (pv 1) (pa_cons (pv 2) pa_nil))))) (pss_one ps_never) (pss_nil))
    (pss_cons (ps_sl (pv 0) (pv 1))
    (pss_cons (ps_sl (pv 0) (pv 2))
    (pss_cons (ps_sl (pv 0) (pe_cl c_factors_by (hr.mono (by decide)) rfl (pa_cons (pv 1) (pa_cons (pv 2) pa_nil))))
    (pss_one (ps_sl (pv 0) (pe_callB (cr_any rfl) (by rfl) T.any (by decide +kernel) (pa_cons (pe_lc (own := [("low", 3), ("high", 4), ("bond", 5)]) (g := (gTup K 3 (gCons (gName 3) (gCons (gName 4) (gCons (gName 5) gNil))))) (tt := tYes) (te := (tOp rEq (tVar 5) (tC (.int 5)))) rfl nd (pi_tup (pv 2)) (blkOk_by (own := [("low", 3), ("high", 4), ("bond", 5)]) (N := ["self", "letters", "bonds", "low", "high", "bond"]) (sc := defScope s_System___init__) (by decide +kernel)) (fun _ _ _ _ _ => (pg_tup rfl (pgs_cons (pg_name (i := 3) nd rfl (Or.inl rfl)) (pgs_cons (pg_name (i := 4) nd rfl (Or.inl rfl)) (pgs_cons (pg_name (i := 5) nd rfl (Or.inl rfl)) pgs_nil))))) (fun _ _ _ _ _ => pts_nil) (fun _ _ _ _ _ => (pe_cmpR op_eq (pv 5) (pe_glob (v := .int 5) rfl cGOLDEN_BOND ⟨_, rfl⟩) (nomark _)))) pa_nil)))))))), ?_⟩
  have hn1 := hV.n1
  have hn4 := hV.n4
  refine do_seq (do_if (b := !true) (et_not (evt_B (evd_call (C := C) (eds_cons (evd_var rfl (.int (n : Int))) (eds_cons evd_int (eds_cons evd_int eds_nil))) ⟨(n : Int), 1, 4, rfl, by simp; omega⟩))) (fun h => absurd h (by decide)) fun _ H1 e1 => ?_)
  refine do_seq (do_if (b := !true) (et_not (evt_B (evd_call (C := C) (eds_cons (evd_var rfl (.int (n : Int))) (eds_cons (evd_var rfl (tb.ex (e0.trans e1))) eds_nil)) ⟨n, bs, rfl, hV, rfl⟩))) (fun h => absurd h (by decide)) fun _ H2 e2 => ?_)
  have e02 := (e0.trans e1).trans e2
  have hin2 : ∀ H', Ex H2 H' → Slt H' x C dx [] := fun H' e => .inl ⟨((e1.trans e2).trans e).all _ _ hin (fun ps z => by cases z), rfl⟩
  refine do_seq (do_sl Ts hp3 rfl hin2 (evd_var (C := C) rfl (.int (n : Int))) fun v3 H3 e3 t3 => ?_)
  cases t3
  have e03 := ex_slH (C := C) (vs' := putS 3 (V.int (n : Int)) []) (e02.trans e3) hx hdx
  have g1 : slH H3 x C dx (putS 3 (V.int (n : Int)) []) x = some (SlO x C dx (putS 3 (V.int (n : Int)) [])) := upd_same
  have g2 : slH H3 x C dx (putS 3 (V.int (n : Int)) []) dx = some (.xd []) := by unfold slH; rw [upd_ne ne, upd_same]
  refine do_seq (do_sl Ts hp0 rfl (fun H' e => slt_ex e g1 g2) (evd_var (C := C) rfl (tb.ex e03)) fun v0 H4 e4 t4 => ?_)
  have e04 := ex_slH (C := C) (vs' := putS 0 v0 (putS 3 (V.int (n : Int)) [])) (e03.trans e4) hx hdx
  have g3 : slH H4 x C dx (putS 0 v0 (putS 3 (V.int (n : Int)) [])) x = some (SlO x C dx (putS 0 v0 (putS 3 (V.int (n : Int)) []))) := upd_same
  have g4 : slH H4 x C dx (putS 0 v0 (putS 3 (V.int (n : Int)) [])) dx = some (.xd []) := by unfold slH; rw [upd_ne ne, upd_same]
  refine do_seq (do_sl Ts hp1 rfl (fun H' e => slt_ex e g3 g4) (evd_call (C := C) (eds_cons (evd_var rfl (.int (n : Int))) (eds_cons (evd_var rfl (tb.ex e04)) eds_nil)) ⟨n, bs, rfl, hV, rfl⟩) fun vf H5 e5 t5 => ?_)
  have g5 := e5.all _ _ g3 slO_tbl
  have g6 := e5.all _ _ g4 fun ps z => by cases z
  have e05 := ex_slH (C := C) (vs' := putS 1 vf (putS 0 v0 (putS 3 (V.int (n : Int)) []))) (e04.trans e5) hx hdx
  have t5' := tp_slH (vs' := putS 1 vf (putS 0 v0 (putS 3 (V.int (n : Int)) []))) g5 g6 ne noLS_fac t5
  have g7 : slH H5 x C dx (putS 1 vf (putS 0 v0 (putS 3 (V.int (n : Int)) []))) x = some (SlO x C dx (putS 1 vf (putS 0 v0 (putS 3 (V.int (n : Int)) [])))) := upd_same
  have g8 : slH H5 x C dx (putS 1 vf (putS 0 v0 (putS 3 (V.int (n : Int)) []))) dx = some (.xd []) := by unfold slH; rw [upd_ne ne, upd_same]
  have hz : bs.length < 100000 := by have := hV.few; omega
  refine do_sl Ts hp2 rfl (fun H' e => slt_ex e g7 g8) (evd_any (C := C) (bs := bs.map fun b => decide (b.2.2 = 5)) (evn_lc (ds := bs.map bondD) (evi_tup (evd_var rfl (tb.ex e05))) (by simp) (by simpa using hz) noLs_bls fun k d e y H6 hd he e6 ty => ?_)) fun vg H6 e6 t6 => ?_
  · rw [List.getElem?_map] at hd
    rw [List.map_map, List.getElem?_map] at he
    cases hk : bs[k]? with
    | none => rw [hk] at hd; simp at hd
    | some b =>
      rw [hk] at hd he
      cases hd; cases he
      obtain ⟨a, xs, rfl, hs, al⟩ := ty.tup'
      obtain _ | ⟨u1, _ | ⟨u2, _ | ⟨u3, _ | _⟩⟩⟩ := al
      refine ⟨_, fun Q q => ⟨a, _, rfl, hs, rfl, _, _, rfl, _, _, rfl, _, _, rfl, rfl, q⟩, rfl, ?_⟩
      refine (evd_eqI (evd_var rfl u3) evd_int).to ?_
      show Dt.bl (decide ((b.2.2 : Int) = 5)) = Dt.bl (decide (b.2.2 = 5))
      congr 1
      rw [Bool.eq_iff_iff, decide_eq_true_eq, decide_eq_true_eq]
      omega
  · have hgold : (bs.map fun b => decide (b.2.2 = 5)).any id = goldB bs := by unfold goldB; rw [List.any_map]; rfl
    rw [hgold] at t6
    cases t6
    have g9 := e6.all _ _ g7 slO_tbl
    have g10 := e6.all _ _ g8 fun ps z => by cases z
    have t7 := tp_slH (vs' := putS 2 (V.bl (goldB bs)) (putS 1 vf (putS 0 v0 (putS 3 (V.int (n : Int)) [])))) g9 g10 ne noLS_fac (t5'.ex e6)
    refine q _ (ex_slH (e05.trans e6) hx hdx) (.sys (dx := dx) (vb := v0) (vf := vf) ?_ ?_ t7)
    · show slH H6 x C dx _ x = _
      unfold slH
      rw [upd_same]
      rfl
    · show slH H6 x C dx _ dx = _
      unfold slH
      rw [upd_ne ne, upd_same]
end
end UW
namespace UW
open PySem PySem.Spec PyProof.Rows L2 Evl StX SlX ClX RZ
/-- cls(..), cls a local name that holds the class at C -/
def tMakeV (i : Nat) (C : Addr) (sp : Sp) (E : XK) (t : TA) : TE := fun σ H Q => σ[i]? = some (some (.ref C)) ∧ tMake C sp [] E t σ H Q
section
variable {X : Cx} {CX : CXT} {k i : Nat} {f C : Addr} {fd : FuncData} {ps : List Str} {sp : Sp} {E : XK} {x : Str} {p pos : Pos} {e : Expr} {es : List Expr} {t : TA}
theorem pe_makeV (M : Mk X.K C f) (F : FnOk X.prog X.w X.K X.mg X.base CX k f fd ps sp) (hr : Room (k + 1) X.A) (hb : Binds X.K fd ps []) (hx : Passes CX X E) (hN : X.N[i]? = some x) (hv : Vis X.env.scope x) (ha : PA X (e :: es) t)
    (hd : (x == ("__debug__" : Str)) = false := by decide) (hcd : (x == ("__classdict__" : Str)) = false := by decide)
    (he : starEach (e :: es) X.env = (false, eval e X.env) :: starEach es X.env := by rfl) (hpl : (backTo pos (starEach es X.env)).any (·.1) = false := by rfl) : PE X (.Call (.Name x p) (e :: es) [] pos) (tMakeV i C sp E t) := by
  refine ⟨fun pins s σ H Q I h => ?_⟩
  obtain ⟨h0, h⟩ := h
  refine wpAny_Call_Name_kw (thn ((pe_var (pos := p) (i := i) hN hv hd hcd).run pins s σ H (fun v H1 => v = .ref C ∧ H1 = H) I ⟨.ref C, h0, rfl, rfl⟩) fun u s1 ⟨v, H1, I1, r1, e1, e2⟩ => ?_)
  subst e1 e2
  cases r1
  refine PySem.W.callWith_K (h₀ := X.base) I.ok.mod.kin M.kp (thn (ha.run pos pins s1 σ _ _ I1 h) fun us s2 ⟨vs, H2, I2, r, q⟩ => ⟨I2.kIn, ?_⟩) he hpl
  exact run_make M F hr hb .nil hx I2 r q
end
/-- how systems are made -/
structure Ini (P : Program) (w : World) (K : PySem.W.Frag) (mg : Str → Option Value) (base : Heap) (C f : Addr) (fd : FuncData) : Prop where
  mkk : Mk K C f
  fn : FnOk P w K mg base CX0 5 f fd ["self", "letters", "bonds"] (spInit K C)
  bd : Binds K fd ["self", "letters", "bonds"] []
/-- a classmethod's promise -/
def spCM (K : PySem.W.Frag) (C : Addr) (k : Int) (n : Nat) (bs : List Bo) : Sp := fun vs H Q _ => vs = [.ref C, .int k] ∧ ∀ v H', Ex H H' → Tp K C H' v (.sys (mkS n bs)) → Q v H'
section
variable {P : Program} {w : World} {K : PySem.W.Frag} {mg : Str → Option Value} {base : Heap} {C Pt aBONDS aFACTORS fi : Addr} {kvs : List (Int × Value)} {fdi : FuncData}
section
variable {H : Hp} {σ : L2.St} {t : TA} {n : Nat} {bs : List Bo}
theorem evd_make (h : EvDs K C t σ H [.int (n : Int), bondsD bs]) (hV : VB n bs) : EvD K C (tMake C (spInit K C) [] E0 t) σ H (.sys (mkS n bs)) := fun H1 e Q q =>
  h H1 e _ fun vs H2 e2 al => by
    intro x dx hx hdx ne
    obtain _ | ⟨t0, _ | ⟨t1, _ | _⟩⟩ := al
    cases t0
    exact ⟨H2, x, dx, n, bs, _, rfl, hx, hdx, ne, ((Ex.refl H2).mut hdx).mut hx, upd_same, t1, hV, fun H' e' t' => ⟨rfl, q _ H' (e2.trans e') t'⟩⟩
theorem evd_makeV {i : Nat} (h0 : σ[i]? = some (some (.ref C))) (h : EvDs K C t σ H [.int (n : Int), bondsD bs]) (hV : VB n bs) : EvD K C (tMakeV i C (spInit K C) E0 t) σ H (.sys (mkS n bs)) := fun H1 e Q q => ⟨h0, evd_make h hV H1 e Q q⟩
theorem evd_cm {k : Int} (h : EvDs K C t σ H [.int k]) : EvD K C (tCMeth C (spCM K C k n bs) E0 (tC (.ref C)) t) σ H (.sys (mkS n bs)) := fun H1 e Q q =>
  ⟨rfl, h H1 e _ fun vs H2 e2 al => by
    obtain _ | ⟨t0, _ | _⟩ := al
    cases t0
    exact ⟨rfl, fun v H3 e3 t3 => q v H3 (e2.trans e3) t3⟩⟩
end
theorem raw0 {k : Nat} {f : Addr} {fd : FuncData} {ps : List Str} {sp : Sp} (F : FnOk P w K mg base CX0 k f fd ps sp) (hb : Binds K fd ps []) : FnR P w K mg base CX0 k f sp :=
  (F.raw hb .nil).imp fun vs H Q E h => by rw [List.append_nil]; exact h
/-! the four systems that the law names -/
def b4 : List Bo := [(0, 1, 3), (1, 2, 3)]
def bsq : List Bo := [(0, 1, 4)]
def b6 : List Bo := [(0, 1, 6)]
def b0 : List Bo := [(0, 1, 0)]
theorem vb_of {n : Nat} {bs : List Bo} (h : (decide (1 ≤ n) && decide (n ≤ 4) && decide (bs.length ≤ 100) && bs.all (fun b => decide (b.1 < b.2.1) && decide (b.2.1 < n) && (decide (b.2.2 = 0) || decide (b.2.2 = 3) || decide (b.2.2 = 4) || decide (b.2.2 = 5) || decide (b.2.2 = 6))) &&
    (List.zipWith (fun a b => decide (a.1 < b.1) || (decide (a.1 = b.1) && decide (a.2.1 < b.2.1))) bs (bs.drop 1)).all id) = true) : VB n bs := by
  simp only [Bool.and_eq_true, Bool.or_eq_true, decide_eq_true_eq, List.all_eq_true] at h
  obtain ⟨⟨⟨⟨h1, h2⟩, h3⟩, h4⟩, h5⟩ := h
  refine ⟨h1, h2, fun b hb => ?_, fun k a b ha hb => ?_, h3⟩
  · obtain ⟨⟨q1, q2⟩, q3⟩ := h4 b hb
    refine ⟨q1, q2, ?_⟩
    unfold isB
    omega
  · have hm : (decide (a.1 < b.1) || (decide (a.1 = b.1) && decide (a.2.1 < b.2.1))) ∈ List.zipWith (fun (a b : Bo) => decide (a.1 < b.1) || (decide (a.1 = b.1) && decide (a.2.1 < b.2.1))) bs (bs.drop 1) := by
      refine List.mem_of_getElem? (i := k) ?_
      rw [List.getElem?_zipWith, ha, List.getElem?_drop, Nat.add_comm, hb]
    have := h5 _ hm
    simpa using this
theorem vb4 : VB 3 b4 := vb_of (by decide)
theorem vbsq : VB 2 bsq := vb_of (by decide)
theorem vb6 : VB 2 b6 := vb_of (by decide)
theorem vb0 : VB 2 b0 := vb_of (by decide)
abbrev s_System_rows : Stmt := inClass (topS 36) 2
theorem sc_System_rows : FnScope ["cls", "places", "low"] ["cls", "places"] (defScope s_System_rows) := ⟨rfl, rfl, rfl, by decide +kernel, rfl, by decide +kernel, by decide +kernel⟩
theorem ok_rows {f : Addr} {fd : FuncData} (F : Fun K "rows" "System.rows" s_System_rows f fd) (T : Bt mg) (M2 : TM2 K mg C aBONDS aFACTORS kvs) (I : Ini P w K mg base C fi fdi) (c_is_within : Cl P w K mg base "is_within" 2 (sp_is_within K C)) : FnOk P w K mg base CX0 7 f fd ["cls", "places"] (spCM K C 4 3 b4) := by
  refine F.ok sc_System_rows (fun vs H Q E ⟨h, _⟩ => by rw [h]; rfl) fun cdv A outer s H vs Q E hr h => ?_
  obtain ⟨rfl, q⟩ := h
  obtain ⟨tk, cMOST_PLACES⟩ := M2.MOST_PLACES
  have nd := sc_System_rows.nd
  refine ⟨_, pss_cons (ps_if (pt_not (pt_val (pe_cl c_is_within (hr.mono (by decide)) rfl (pa_cons (pv 1) (pa_cons pe_int (pa_cons (pe_glob (v := .int 5) rfl cMOST_PLACES ⟨_, rfl⟩) pa_nil)))))) (pss_one ps_never) (pss_nil))
    (pss_one (ps_ret (pe_makeV (i := 0) I.mkk I.fn (hr.mono (by decide)) I.bd pass0 rfl (.inl rfl) (pa_cons (pe_op op_sub (pv 1) pe_int) (pa_cons (pe_callTy call_tuple_of (by rfl) T.tuple (by decide +kernel) (pa_cons (pe_lc (own := [("low", 2)]) (g := (gName 2)) (tt := tYes) (te := (tTup (tCons (tVar 2) (tCons (tOp (rI0 fun i j => .int (i + j)) (tVar 2) (tC (.int 1))) (tCons (tC (.int 3)) tNil))))) rfl nd (pi_range1 (by rfl) T.range (pa_cons (pe_op op_sub (pv 1) pe_int) pa_nil)) (blkOk_by (own := [("low", 2)]) (N := ["cls", "places", "low"]) (sc := defScope s_System_rows) (by decide +kernel)) (fun _ _ _ _ _ => (pg_name (i := 2) nd rfl (Or.inl rfl))) (fun _ _ _ _ _ => pts_nil) (fun _ _ _ _ _ => (pe_tup (pa_cons (pv 2) (pa_cons (pe_op op_add (pv 2) pe_int) (pa_cons pe_int pa_nil)))))) pa_nil)) pa_nil))))), ?_⟩
  refine do_seq (do_if (b := !true) (et_not (evt_B (evd_call (C := C) (eds_cons (evd_var rfl (.int 4)) (eds_cons evd_int (eds_cons evd_int eds_nil))) ⟨4, 2, 5, rfl, rfl⟩))) (fun h => absurd h (by decide)) fun _ H1 e1 => ?_)
  exact do_ret (K := K) (C := C) (evd_makeV (n := 3) (bs := b4) rfl (eds_cons ((evd_sub (evd_var rfl (.int 4)) evd_int).to rfl) (eds_cons ((evd_tuple (evn_lc1 (ds := rngD 0 2) (es := b4.map bondD) (evi_rng1 (n := 2) (eds_cons ((evd_sub (evd_var rfl (.int 4)) evd_int).to rfl) eds_nil) (by omega)).w rfl (by decide) (noLs_map (fun _ => noL_bondD) _) (fun _ => rfl) fun k d e x H4 hd he e4 tx => by
    match k, hd, he with
    | 0, hd, he => cases hd; cases he; exact evd_tup (eds_cons (evd_var rfl tx) (eds_cons ((evd_add (evd_var rfl tx) evd_int).to rfl) (eds_cons evd_int eds_nil))) (by simp)
    | 1, hd, he => cases hd; cases he; exact evd_tup (eds_cons (evd_var rfl tx) (eds_cons ((evd_add (evd_var rfl tx) evd_int).to rfl) (eds_cons evd_int eds_nil))) (by simp)
    | k + 2, hd, he => simp [rngD] at hd)).to rfl) eds_nil)) vb4) fun v H2 e2 t => q v H2 (e1.trans e2) t
abbrev s_System_signed : Stmt := inClass (topS 36) 3
theorem sc_System_signed : FnScope ["cls", "places", "low"] ["cls", "places"] (defScope s_System_signed) := ⟨rfl, rfl, rfl, by decide +kernel, rfl, by decide +kernel, by decide +kernel⟩
theorem ok_signed {f : Addr} {fd : FuncData} (F : Fun K "signed" "System.signed" s_System_signed f fd) (T : Bt mg) (M2 : TM2 K mg C aBONDS aFACTORS kvs) (I : Ini P w K mg base C fi fdi) (c_is_within : Cl P w K mg base "is_within" 2 (sp_is_within K C)) : FnOk P w K mg base CX0 7 f fd ["cls", "places"] (spCM K C 2 2 bsq) := by
  refine F.ok sc_System_signed (fun vs H Q E ⟨h, _⟩ => by rw [h]; rfl) fun cdv A outer s H vs Q E hr h => ?_
  obtain ⟨rfl, q⟩ := h
  obtain ⟨tk, cMOST_SIGNED⟩ := M2.MOST_SIGNED
  have nd := sc_System_signed.nd
  refine ⟨_, pss_cons (ps_if (pt_not (pt_val (pe_cl c_is_within (hr.mono (by decide)) rfl (pa_cons (pv 1) (pa_cons pe_int (pa_cons (pe_glob (v := .int 3) rfl cMOST_SIGNED ⟨_, rfl⟩) pa_nil)))))) (pss_one ps_never) (pss_nil))
    (pss_one (ps_ret (pe_makeV (i := 0) I.mkk I.fn (hr.mono (by decide)) I.bd pass0 rfl (.inl rfl) (pa_cons (pv 1) (pa_cons (pe_tup (pa_cons (pe_tup (pa_cons pe_int (pa_cons pe_int (pa_cons pe_int pa_nil)))) (pa_star (pe_lc (own := [("low", 2)]) (g := (gName 2)) (tt := tYes) (te := (tTup (tCons (tVar 2) (tCons (tOp (rI0 fun i j => .int (i + j)) (tVar 2) (tC (.int 1))) (tCons (tC (.int 3)) tNil))))) rfl nd (pi_range2 (by rfl) T.range (pa_cons pe_int (pa_cons (pe_op op_sub (pv 1) pe_int) pa_nil))) (blkOk_by (own := [("low", 2)]) (N := ["cls", "places", "low"]) (sc := defScope s_System_signed) (by decide +kernel)) (fun _ _ _ _ _ => (pg_name (i := 2) nd rfl (Or.inl rfl))) (fun _ _ _ _ _ => pts_nil) (fun _ _ _ _ _ => (pe_tup (pa_cons (pv 2) (pa_cons (pe_op op_add (pv 2) pe_int) (pa_cons pe_int pa_nil)))))) pa_nil))) pa_nil))))), ?_⟩
  refine do_seq (do_if (b := !true) (et_not (evt_B (evd_call (C := C) (eds_cons (evd_var rfl (.int 2)) (eds_cons evd_int (eds_cons evd_int eds_nil))) ⟨2, 2, 3, rfl, rfl⟩))) (fun h => absurd h (by decide)) fun _ H1 e1 => ?_)
  exact do_ret (K := K) (C := C) (evd_makeV (n := 2) (bs := bsq) rfl (eds_cons (evd_var rfl (.int 2)) (eds_cons ((evd_tup (eds_cons (evd_tup (eds_cons evd_int (eds_cons evd_int (eds_cons evd_int eds_nil))) (by simp)) (eds_starN (es := []) (evn_lc1 (ds := rngD 1 0) (evi_rng2 (lo := 1) (hi := 1) (eds_cons evd_int (eds_cons ((evd_sub (evd_var rfl (.int 2)) evd_int).to rfl) eds_nil)) (by decide)).w rfl (by decide) rfl (fun _ => rfl) fun k d e x H4 hd he e4 tx => by simp at he) eds_nil)) (by simp)).to rfl) eds_nil)) vbsq) fun v H2 e2 t => q v H2 (e1.trans e2) t
abbrev s_System_polygon : Stmt := inClass (topS 36) 4
theorem sc_System_polygon : FnScope ["cls", "bond"] ["cls", "bond"] (defScope s_System_polygon) := ⟨rfl, rfl, rfl, by decide +kernel, rfl, by decide +kernel, by decide +kernel⟩
theorem ok_polygon {f : Addr} {fd : FuncData} (F : Fun K "polygon" "System.polygon" s_System_polygon f fd) (T : Bt mg) (M2 : TM2 K mg C aBONDS aFACTORS kvs) (I : Ini P w K mg base C fi fdi) (c_is_within : Cl P w K mg base "is_within" 2 (sp_is_within K C)) : FnOk P w K mg base CX0 7 f fd ["cls", "bond"] (spCM K C 6 2 b6) := by
  refine F.ok sc_System_polygon (fun vs H Q E ⟨h, _⟩ => by rw [h]; rfl) fun cdv A outer s H vs Q E hr h => ?_
  obtain ⟨rfl, q⟩ := h
  obtain ⟨tk, cPLAIN_BOND⟩ := M2.PLAIN_BOND
  have cBONDS := M2.cBONDS
  have nd := sc_System_polygon.nd
  refine ⟨_, pss_cons (ps_if (PW.pt (pw_or (pt_not (pt_val (pe_cl c_is_within (hr.mono (by decide)) rfl (pa_cons (pv 1) (pa_cons pe_int (pa_cons (pe_ix ix_tup (pe_glob (v := .ref aBONDS) rfl cBONDS rfl) (pe_un un_neg pe_int) (fun _ _ => rfl)) pa_nil)))))) (pw_or1 (pt_cmpR op_notIn_seq (pv 1) (pe_glob (v := .ref aBONDS) rfl cBONDS rfl) (by rfl))))) (pss_one ps_never) (pss_nil))
    (pss_one (ps_ret (pe_makeV (i := 0) I.mkk I.fn (hr.mono (by decide)) I.bd pass0 rfl (.inl rfl) (pa_cons pe_int (pa_cons (pe_ifExp (pt_cmpR op_eq (pv 1) (pe_glob (v := .int 2) rfl cPLAIN_BOND ⟨_, rfl⟩) (nomark _)) (pe_tup pa_nil) (pe_tup (pa_cons (pe_tup (pa_cons pe_int (pa_cons pe_int (pa_cons (pv 1) pa_nil)))) pa_nil))) pa_nil))))), ?_⟩
  refine do_seq (do_if (b := (!true || false)) (et_or (et_not (evt_B (evd_call (C := C) (eds_cons (evd_var rfl (.int 6)) (eds_cons evd_int (eds_cons (evd_last M2) eds_nil))) ⟨6, 0, 6, rfl, rfl⟩))) fun _ => evt_test (C := C) (evd_op (K := K) (dx := .int 6) (dy := .tup (([0, 2, 3, 4, 5, 6] : List Int).map Dt.int)) (evd_var rfl (.int 6)) (evd_con (M2.bonds H)) ?_)) (fun h => absurd h (by decide)) fun _ H1 e1 => ?_)
  · intro x y H1 e tx ty Q q
    obtain ⟨a, xs, rfl, hs, al⟩ := ty.tup'
    have := al.ints
    subst this
    cases tx
    exact ⟨a, _, rfl, .inr hs, rfl, rfl, q _ H1 (Ex.refl _) (.bl _)⟩
  · exact do_ret (K := K) (C := C) (evd_makeV (n := 2) (bs := b6) rfl (eds_cons evd_int (eds_cons (evd_if (b := false) (evt_test (K := K) (C := C) ((evd_eqI (evd_var rfl (.int 6)) evd_int).to rfl)) (fun h => absurd h (by decide)) fun _ => (evd_tup (eds_cons (evd_tup (eds_cons evd_int (eds_cons evd_int (eds_cons (evd_var rfl (.int 6)) eds_nil))) (by simp)) eds_nil) (by simp)).to rfl) eds_nil)) vb6) fun v H2 e2 t => q v H2 (e1.trans e2) t
abbrev s_System_ring : Stmt := inClass (topS 36) 6
theorem sc_System_ring : FnScope ["cls", "letters"] ["cls", "letters"] (defScope s_System_ring) := ⟨rfl, rfl, rfl, by decide +kernel, rfl, by decide +kernel, by decide +kernel⟩
theorem ok_ring {f : Addr} {fd : FuncData} (F : Fun K "ring" "System.ring" s_System_ring f fd) (T : Bt mg) (M2 : TM2 K mg C aBONDS aFACTORS kvs) (I : Ini P w K mg base C fi fdi) (c_is_within : Cl P w K mg base "is_within" 2 (sp_is_within K C)) : FnOk P w K mg base CX0 7 f fd ["cls", "letters"] (spCM K C 2 2 b0) := by
  refine F.ok sc_System_ring (fun vs H Q E ⟨h, _⟩ => by rw [h]; rfl) fun cdv A outer s H vs Q E hr h => ?_
  obtain ⟨rfl, q⟩ := h
  obtain ⟨tk, cMOST_RING⟩ := M2.MOST_RING
  have nd := sc_System_ring.nd
  refine ⟨_, pss_cons (ps_if (pt_not (pt_val (pe_cl c_is_within (hr.mono (by decide)) rfl (pa_cons (pv 1) (pa_cons pe_int (pa_cons (pe_glob (v := .int 3) rfl cMOST_RING ⟨_, rfl⟩) pa_nil)))))) (pss_one ps_never) (pss_nil))
    (pss_one (ps_ret (pe_makeV (i := 0) I.mkk I.fn (hr.mono (by decide)) I.bd pass0 rfl (.inl rfl) (pa_cons (pv 1) (pa_cons (pe_ifExp (pt_cmpR op_eq (pv 1) pe_int (nomark _)) (pe_tup (pa_cons (pe_tup (pa_cons pe_int (pa_cons pe_int (pa_cons pe_int pa_nil)))) pa_nil)) (pe_tup (pa_cons (pe_tup (pa_cons pe_int (pa_cons pe_int (pa_cons pe_int pa_nil)))) (pa_cons (pe_tup (pa_cons pe_int (pa_cons pe_int (pa_cons pe_int pa_nil)))) (pa_cons (pe_tup (pa_cons pe_int (pa_cons pe_int (pa_cons pe_int pa_nil)))) pa_nil))))) pa_nil))))), ?_⟩
  refine do_seq (do_if (b := !true) (et_not (evt_B (evd_call (C := C) (eds_cons (evd_var rfl (.int 2)) (eds_cons evd_int (eds_cons evd_int eds_nil))) ⟨2, 2, 3, rfl, rfl⟩))) (fun h => absurd h (by decide)) fun _ H1 e1 => ?_)
  exact do_ret (K := K) (C := C) (evd_makeV (n := 2) (bs := b0) rfl (eds_cons (evd_var rfl (.int 2)) (eds_cons (evd_if (b := true) (evt_test (K := K) (C := C) ((evd_eqI (evd_var rfl (.int 2)) evd_int).to rfl)) (fun _ => (evd_tup (eds_cons (evd_tup (eds_cons evd_int (eds_cons evd_int (eds_cons evd_int eds_nil))) (by simp)) eds_nil) (by simp)).to rfl) fun h => absurd h (by decide)) eds_nil)) vb0) fun v H2 e2 t => q v H2 (e1.trans e2) t
end
end UW
namespace UW
open PySem PySem.Spec PyProof.Rows L2 Evl StX SlX ClX RZ
/-! ### the vat: a list of three ints that changes -/
def VatAt (H : Hp) (a : Addr) : Prop := ∃ x y z : Int, H a = some (.lst [.int x, .int y, .int z])
/-- all but the vat stays -/
def ExV (a : Addr) (H H' : Hp) : Prop := ∃ x y z : Int, H' a = some (.lst [.int x, .int y, .int z]) ∧ Ex (upd H a (.lst [.int x, .int y, .int z])) H'
def CPowB (i j : Int) : Prop := 0 ≤ j ∧ (Builtin.Int.intBits i : Int) * j ≤ 2 ^ 27
theorem op_powB {X : Cx} : OpR X (binaryOp .Pow) (rI CPowB fun i j => .int (i ^ j.toNat)) := opI fun _ _ _ _ _ _ _ hc q => pow_int hc.1 hc.2 q
section
variable {K : PySem.W.Frag} {C : Addr} {H H' H2 : Hp} {a b : Addr} {σ : L2.St} {ta tb tm te : TE} {d : Dt} {ds : List Dt}
theorem VatAt.ex (e : Ex H H') (v : VatAt H a) : VatAt H' a := by
  obtain ⟨x, y, z, h⟩ := v
  exact ⟨x, y, z, ex_lst e h⟩
theorem ExV.at (e : ExV a H H') : VatAt H' a := by
  obtain ⟨x, y, z, h, _⟩ := e
  exact ⟨x, y, z, h⟩
theorem ExV.of (v : VatAt H a) (e : Ex H H') : ExV a H H' := by
  obtain ⟨x, y, z, h⟩ := v
  refine ⟨x, y, z, ex_lst e h, ?_⟩
  have : upd H a (.lst [.int x, .int y, .int z]) = H := by
    funext b
    by_cases hb : b = a
    · rw [hb, upd_same, h]
    · rw [upd_ne hb]
  rw [this]; exact e
theorem ExV.refl (v : VatAt H a) : ExV a H H := ExV.of v (Ex.refl H)
theorem ExV.trans (e : ExV a H H') (e' : ExV a H' H2) : ExV a H H2 := by
  obtain ⟨x, y, z, h, e⟩ := e
  obtain ⟨x', y', z', h', e'⟩ := e'
  refine ⟨x', y', z', h', ⟨fun b o q n => ?_, fun b ps q => ?_⟩⟩
  · by_cases hb : b = a
    · subst hb; rw [upd_same] at q; cases q; exact h'
    · rw [upd_ne hb] at q
      have := e.all b o (by rw [upd_ne hb]; exact q) n
      exact e'.all b o (by rw [upd_ne hb]; exact this) n
  · by_cases hb : b = a
    · subst hb; rw [upd_same] at q; cases q
    · rw [upd_ne hb] at q
      obtain ⟨ps1, q1, t1⟩ := e.tab b ps (by rw [upd_ne hb]; exact q)
      obtain ⟨ps2, q2, t2⟩ := e'.tab b ps1 (by rw [upd_ne hb]; exact q1)
      exact ⟨ps2, q2, fun t => t2 (t1 t)⟩
theorem ExV.ex (e : ExV a H H') (e' : Ex H' H2) : ExV a H H2 := e.trans (ExV.of e.at e')
theorem ExV.set {x y z : Int} (v : VatAt H a) (e : Ex H H') : ExV a H (upd H' a (.lst [.int x, .int y, .int z])) := by
  obtain ⟨x0, y0, z0, h⟩ := v
  refine ⟨x, y, z, upd_same, ⟨fun b o q n => ?_, fun b ps q => ?_⟩⟩
  · by_cases hb : b = a
    · subst hb; rw [upd_same] at q ⊢; exact q
    · rw [upd_ne hb] at q ⊢; exact e.all b o q n
  · by_cases hb : b = a
    · subst hb; rw [upd_same] at q; cases q
    · rw [upd_ne hb] at q ⊢; exact e.tab b ps q
theorem Tp.exv {v : V} (n : noL d = true) (w : VatAt H a) (t : Tp K C H v d) (e : ExV a H H') : Tp K C H' v d := by
  obtain ⟨x, y, z, _, e⟩ := e
  obtain ⟨x0, y0, z0, h⟩ := w
  exact (t.upd ⟨_, h⟩ n).ex e
theorem lst_exv {l : Addr} {xs : List V} (h : H l = some (.lst xs)) (n : l ≠ a) (e : ExV a H H') : H' l = some (.lst xs) := by
  obtain ⟨x, y, z, _, e⟩ := e
  exact ex_lst e (by rw [upd_ne n]; exact h)
theorem TpAll.exv {vs : List V} (n : noLs ds = true) (w : VatAt H a) (t : TpAll K C H vs ds) (e : ExV a H H') : TpAll K C H' vs ds := by
  obtain ⟨x, y, z, _, e⟩ := e
  obtain ⟨x0, y0, z0, h⟩ := w
  exact (t.upd ⟨_, h⟩ n).ex e
theorem Mat.exv {p : Addr} {F : List (List Gd)} {as : List Addr} (m : Mat K C H p F as) (h1 : a ≠ p) (h2 : a ∉ as) (w : VatAt H a) (e : ExV a H H') : Mat K C H' p F as := by
  obtain ⟨x, y, z, _, e⟩ := e
  obtain ⟨x0, y0, z0, h⟩ := w
  exact (m.other ⟨_, h⟩ h1 h2).ex e
theorem Tab.exv {P : Addr} (t : Tab P H) (w : VatAt H a) (e : ExV a H H') : Tab P H' := by
  obtain ⟨x, y, z, _, e⟩ := e
  obtain ⟨x0, y0, z0, h⟩ := w
  refine Tab.ex e ?_
  obtain ⟨ps, q, k⟩ := t
  refine ⟨ps, ?_, k⟩
  rw [upd_ne (fun z => by rw [z, h] at q; cases q)]; exact q
theorem vat_ne (v : VatAt H a) (h : H b = none) : a ≠ b := fun z => by
  obtain ⟨x, y, z', q⟩ := v
  rw [z, h] at q; cases q
/-- what is had of the vat -/
theorem vat_tp {x y z : Int} (h : H a = some (.lst [.int x, .int y, .int z])) : Tp K C H (.ref a) (.lst [.int x, .int y, .int z]) := .lst (sq_of h) (.cons (.int x) (.cons (.int y) (.cons (.int z) .nil)))
/-- the promise of tap: some number below n -/
def sp__law_tap (K : PySem.W.Frag) (C : Addr) : Sp := fun vs H Q _ => ∃ (a : Addr) (n : Nat), vs = [.ref a, .int (n : Int)] ∧ VatAt H a ∧ 0 < n ∧ n ≤ 1000000 ∧ ∀ (r : Nat) H', r < n → ExV a H H' → Q (.int (r : Int)) H'
theorem tap_run {n m : Nat} {i : Int} {Q : VK} (v : VatAt H a) (h0 : σ[n]? = some (some (.ref a))) (hm : EvD K C tm σ H (.int i)) (hi : i = (m : Int)) (h1 : 0 < m) (h2 : m ≤ 1000000) (q : ∀ (r : Nat) H', r < m → ExV a H H' → Q (.int (r : Int)) H') :
    tCall (sp__law_tap K C) [] E0 (tCons (tVar n) (tCons tm tNil)) σ H Q :=
  ⟨_, h0, hm H (Ex.refl _) _ fun w H2 e2 t => by
    subst hi
    cases t
    exact ⟨a, m, rfl, v.ex e2, h1, h2, fun r H' hr e => q r H' hr ((ExV.of v e2).trans e)⟩⟩
theorem evd_modN {i j : Int} (ha : EvD K C ta σ H (.int i)) (hb : EvD K C tb σ H (.int j)) (hj : j ≠ 0) : EvD K C (tOp (rI (fun _ j => j ≠ 0) fun i j => .int (i.fmod j)) ta tb) σ H (.int (i.fmod j)) := evd_op ha hb (rd_I hj fun _ => .int _)
theorem evd_divN {i j : Int} (ha : EvD K C ta σ H (.int i)) (hb : EvD K C tb σ H (.int j)) (hj : CDivN i j) : EvD K C (tOp (rI CDivN fun i j => .int (i.fdiv j)) ta tb) σ H (.int (i.fdiv j)) := evd_op ha hb (rd_I hj fun _ => .int _)
theorem evd_pow {i j : Int} (ha : EvD K C ta σ H (.int i)) (hb : EvD K C tb σ H (.int j)) (hj : CPowB i j) : EvD K C (tOp (rI CPowB fun i j => .int (i ^ j.toNat)) ta tb) σ H (.int (i ^ j.toNat)) := evd_op ha hb (rd_I hj fun _ => .int _)
theorem fmod_nat {i : Int} {n : Nat} (h : 0 < n) : ∃ r : Nat, r < n ∧ i.fmod (n : Int) = (r : Int) := by
  have h1 : 0 ≤ i.fmod (n : Int) := Int.fmod_nonneg_of_pos _ (by omega)
  have h2 : i.fmod (n : Int) < (n : Int) := Int.fmod_lt_of_pos _ (by omega)
  exact ⟨(i.fmod (n : Int)).toNat, by omega, by omega⟩
end
section
variable {P : Program} {w : World} {K : PySem.W.Frag} {mg : Str → Option Value} {base : Heap} {C Pt : Addr}
/-! _law_tap -/
abbrev s__law_tap : Stmt := topS 50
theorem sc__law_tap : FnScope ["_law_vat_here", "_law_total", "_law_found", "_law_one", "_law_two"] ["_law_vat_here", "_law_total"] (defScope s__law_tap) := ⟨rfl, rfl, rfl, by decide +kernel, rfl, by decide +kernel, by decide +kernel⟩
theorem ok__law_tap {f : Addr} {fd : FuncData} (F : Fun K "_law_tap" "_law_tap" s__law_tap f fd) (T : Bt mg) : FnOk P w K mg base CX0 1 f fd ["_law_vat_here", "_law_total"] (sp__law_tap K C) := by
  refine F.ok sc__law_tap (fun vs H Q E ⟨a, n, h, _⟩ => by rw [h]; rfl) fun cdv A outer s H vs Q E hr h => ?_
  obtain ⟨a, n, rfl, v, hn, hn2, q⟩ := h
  have nd := sc__law_tap.nd
  refine ⟨_, pss_cons (ps_if (pt_cmpR op_gt (pe_ix ix_list (pv 0) pe_int (fun _ _ => rfl)) pe_int (nomark _)) (pss_cons (ps_set (i := 2) nd rfl (Or.inl rfl) (pe_op op_modN (pe_callTy call_int1 (by rfl) T.int (by decide +kernel) (pa_cons (pe_ix ix_list (pv 0) pe_int (fun _ _ => rfl)) pa_nil)) (pv 1)))
    (pss_cons (ps_asg (pe_op op_fdivN (pe_ix ix_list (pv 0) pe_int (fun _ _ => rfl)) (pv 1)) (pg_sub (pv 0) pe_int set_list))
    (pss_one (ps_ret (pv 2))))) (pss_nil))
    (pss_cons (ps_asg (pe_op op_add (pe_ix ix_list (pv 0) pe_int (fun _ _ => rfl)) pe_int) (pg_sub (pv 0) pe_int set_list))
    (pss_cons (ps_set (i := 3) nd rfl (Or.inl rfl) (pe_op op_modN (pe_callTy call_int1 (by rfl) T.int (by decide +kernel) (pa_cons (pe_op op_add (pe_ix ix_list (pv 0) pe_int (fun _ _ => rfl)) (pe_op op_mul pe_int (pe_ix ix_list (pv 0) pe_int (fun _ _ => rfl)))) pa_nil)) pe_int))
    (pss_cons (ps_set (i := 4) nd rfl (Or.inl rfl) (pe_op op_modN (pe_callTy call_int1 (by rfl) T.int (by decide +kernel) (pa_cons (pe_op op_add (pe_op op_add (pe_op op_mul (pv 3) (pv 3)) (pe_op op_mul pe_int (pe_ix ix_list (pv 0) pe_int (fun _ _ => rfl)))) pe_int) pa_nil)) pe_int))
    (pss_one (ps_ret (pe_op op_modN (pe_callTy call_int1 (by rfl) T.int (by decide +kernel) (pa_cons (pe_op op_fdivN (pe_op op_mul (pv 4) (pe_op op_add (pe_op op_modN (pv 3) pe_int) pe_int)) pe_int) pa_nil)) (pv 1))))))), ?_⟩
  obtain ⟨x, y, z, hv⟩ := v
  have v : VatAt H a := ⟨x, y, z, hv⟩
  have tv : ∀ H', Ex H H' → Tp K C H' (.ref a) (.lst [.int x, .int y, .int z]) := fun H' e => vat_tp (ex_lst e hv)
  have n0 : (n : Int) ≠ 0 := by omega
  obtain ⟨r, hr1, hr2⟩ := fmod_nat (i := x) hn
  refine do_seq (do_if (b := decide ((0 : Int) < x)) (evt_test (C := C) (evd_gt (evd_ixL (n := 0) (evd_var rfl (tv H (Ex.refl _))) evd_int rfl rfl) evd_int)) (fun hb H1 e1 => ?_) fun hb H1 e1 => ?_)
  · refine do_seq (do_set (K := K) (C := C) (evd_modN (evd_int1i (evd_ixL (n := 0) (evd_var rfl (tv H1 e1)) evd_int rfl rfl)) (evd_var rfl (.int (n : Int))) n0) fun v2 H2 e2 t2 => ?_)
    have e12 := e1.trans e2
    refine do_seq (do_setL (K := K) (C := C) (l := 0) rfl (ex_lst e12 hv) (evd_divN (evd_ixL (n := 0) (evd_var rfl (tv H2 e12)) evd_int rfl rfl) (evd_var rfl (.int (n : Int))) ⟨n0, by omega⟩) evd_int (by simp) fun v3 H3 e3 t3 => ?_)
    cases t3
    cases t2
    refine do_ret (K := K) (C := C) (d := .int (r : Int)) ((evd_var rfl (.int _)).to (by rw [hr2])) fun v4 H4 e4 t4 => ?_
    cases t4
    exact q r H4 hr1 ((ExV.set v (e12.trans e3)).ex e4)
  · refine do_seq (do_setL (K := K) (C := C) (l := 2) rfl (ex_lst e1 hv) (evd_add (evd_ixL (n := 2) (evd_var rfl (tv H1 e1)) evd_int rfl rfl) evd_int) evd_int (by simp) fun v2 H2 e2 t2 => ?_)
    cases t2
    have w2 : ExV a H (upd H2 a (.lst [.int x, .int y, .int (z + 1)])) := ExV.set v (e1.trans e2)
    have tw : ∀ H', Ex (upd H2 a (.lst [.int x, .int y, .int (z + 1)])) H' → Tp K C H' (.ref a) (.lst [.int x, .int y, .int (z + 1)]) := fun H' e => vat_tp (ex_lst e upd_same)
    refine do_seq (do_set (K := K) (C := C) (evd_modN (evd_int1i (evd_add (evd_ixL (n := 1) (evd_var rfl (tw _ (Ex.refl _))) evd_int rfl rfl) (evd_mul evd_int (evd_ixL (n := 2) (evd_var rfl (tw _ (Ex.refl _))) evd_int rfl rfl) (.inl ⟨by decide, by decide⟩)))) evd_int (by decide)) fun v3 H3 e3 t3 => ?_)
    obtain ⟨r1, h1, h1'⟩ := fmod_nat (i := y + 67867967 * (z + 1)) (n := 2305843009213693669) (by decide)
    rw [show ((2305843009213693669 : Int)) = ((2305843009213693669 : Nat) : Int) from rfl, h1'] at t3
    refine do_seq (do_set (K := K) (C := C) (evd_modN (evd_int1i (evd_add (evd_add (evd_mul (evd_var rfl t3) (evd_var rfl t3) (.inl ⟨by omega, by omega⟩)) (evd_mul evd_int (evd_ixL (n := 2) (evd_var rfl (tw _ e3)) evd_int rfl rfl) (.inl ⟨by decide, by decide⟩))) evd_int)) evd_int (by decide)) fun v4 H4 e4 t4 => ?_)
    obtain ⟨r2, h2, h2'⟩ := fmod_nat (i := (r1 : Int) * r1 + 613 * (z + 1) + 5) (n := 2305843009213693613) (by decide)
    rw [show ((2305843009213693613 : Int)) = ((2305843009213693613 : Nat) : Int) from rfl, h2'] at t4
    obtain ⟨r3, h3, h3'⟩ := fmod_nat (i := (((r2 : Int) * (((r1 : Int).fmod 773) + 11)).fdiv 8191)) hn
    refine do_ret (K := K) (C := C) (d := .int (r3 : Int)) ((evd_modN (evd_int1i (evd_divN (evd_mul (evd_var rfl t4) (evd_add (evd_modN (evd_var rfl (t3.ex e4)) evd_int (by decide)) evd_int) (.inl ⟨by omega, by omega⟩)) evd_int ⟨by decide, by decide⟩)) (evd_var rfl (.int (n : Int))) n0).to (by rw [h3'])) fun v5 H5 e5 t5 => ?_
    cases t5
    exact q r3 H5 h3 (((w2.ex e3).ex e4).ex e5)
/-! _law_taste -/
abbrev s__law_taste : Stmt := topS 51
theorem sc__law_taste : FnScope ["_law_vat_here", "_law_items"] ["_law_vat_here", "_law_items"] (defScope s__law_taste) := ⟨rfl, rfl, rfl, by decide +kernel, rfl, by decide +kernel, by decide +kernel⟩
def sp__law_taste (K : PySem.W.Frag) (C : Addr) : Sp := fun vs H Q _ => ∃ (a l : Addr) (xs : List V) (ds : List Dt), vs = [.ref a, .ref l] ∧ VatAt H a ∧ l ≠ a ∧ H l = some (.lst xs) ∧ TpAll K C H xs ds ∧ noLs ds = true ∧ 0 < ds.length ∧ ds.length ≤ 1000 ∧ ∀ v d H', d ∈ ds → ExV a H H' → Tp K C H' v d → Q v H'
theorem ok__law_taste {f : Addr} {fd : FuncData} (F : Fun K "_law_taste" "_law_taste" s__law_taste f fd) (T : Bt mg) (c__law_tap : Cl P w K mg base "_law_tap" 1 (sp__law_tap K C)) : FnOk P w K mg base CX0 2 f fd ["_law_vat_here", "_law_items"] (sp__law_taste K C) := by
  refine F.ok sc__law_taste (fun vs H Q E ⟨a, l, xs, ds, h, _⟩ => by rw [h]; rfl) fun cdv A outer s H vs Q E hr h => ?_
  obtain ⟨a, l, xs, ds, rfl, v, hne, hl, al, nl, h0, h1, q⟩ := h
  have nd := sc__law_taste.nd
  refine ⟨_, pss_one (ps_ret (pe_ix ix_list (pv 1) (pe_cl c__law_tap (hr.mono (by decide)) rfl (pa_cons (pv 0) (pa_cons (pe_callB call_len_seq (by rfl) T.len PySem.boot_len (pa_cons (pv 1) pa_nil)) pa_nil))) (fun _ _ => rfl))), ?_⟩
  have hlen := al.length
  refine ⟨_, rfl, tap_run (m := ds.length) v rfl (evd_lenL (evd_var rfl (.lst (sq_of hl) al))) rfl h0 (by omega) fun r H' hr e => ?_⟩
  have al' := al.exv nl v e
  obtain ⟨x, hx, tx⟩ := al'.get (List.getElem?_eq_getElem hr)
  exact ⟨l, xs, (r : Int), x, rfl, rfl, sq_of (lst_exv hl hne e), atI_nat hx, q x _ H' (List.getElem_mem hr) e tx⟩
theorem taste_run {n : Nat} {a : Addr} {σ : L2.St} {H : Hp} {tm : TE} {ds : List Dt} {Q : VK} (v : VatAt H a) (h0 : σ[n]? = some (some (.ref a))) (hm : EvN K C tm σ H ds) (nl : noLs ds = true) (h1 : 0 < ds.length) (h2 : ds.length ≤ 1000) (q : ∀ v d H', d ∈ ds → ExV a H H' → Tp K C H' v d → Q v H') :
    tCall (sp__law_taste K C) [] E0 (tCons (tVar n) (tCons tm tNil)) σ H Q :=
  ⟨_, h0, hm H (Ex.refl _) _ fun p xs H2 hp e2 hx al => ⟨a, p, xs, ds, rfl, v.ex e2, (vat_ne v hp).symm, hx, al, nl, h1, h2, fun y d H' hd e t => q y d H' hd ((ExV.of v e2).trans e) t⟩⟩
end
end UW
namespace UW
open PySem PySem.Spec PyProof.Rows L2 Evl StX SlX ClX RZ
def stD (st : List (List Gd)) : Dt := .tup (st.map rowD)
@[simp] theorem noL_stD {st : List (List Gd)} : noL (stD st) = true := by unfold stD; rw [noL_tup]; exact noLs_map (fun _ => noL_rowD) _
def Med (i : Int) : Prop := i.natAbs < 2 ^ 3000
theorem med_mul {i j : Int} (hi : Med i) (hj : Med j) : CMulW i j := wide_mul hi hj (by decide) (by decide) (by decide)
section
variable {K : PySem.W.Frag} {C : Addr} {H H' : Hp} {σ : L2.St} {ta tb te : TE} {ds es : List Dt}
theorem evn_slL {tl th : TO} {lo hi : Option Int} (ha : EvD K C te σ H (.lst ds)) (h1 : EvO tl σ H lo) (h2 : EvO th σ H hi) : EvN K C (L2.tSl (rSlL K) te tl th) σ H (cutD ds lo hi) := fun H1 e Q q =>
  ha H1 e _ fun v H2 e2 t => h1 H2 (e.trans e2) _ fun H3 e3 => h2 H3 ((e.trans e2).trans e3) _ fun H4 e4 => by
    obtain ⟨a, xs, rfl, hs, al⟩ := (t.ex (e3.trans e4)).lst'
    have e24 := (e2.trans e3).trans e4
    exact ⟨a, xs, rfl, hs, fun p hp => q p _ _ (fresh_back e24 hp) (e24.trans (Ex.new hp)) upd_same ((tp_cut al).ex (Ex.new hp))⟩
theorem evn_catV {n : Nat} {p : Addr} {xs : List V} (hv : σ[n]? = some (some (.ref p))) (hp : H p = some (.lst xs)) (al : TpAll K C H xs ds) (h : EvN K C tb σ H es) (hl : ds.length + es.length ≤ 100000) : EvN K C (tOp rCat (tVar n) tb) σ H (ds ++ es) := fun H1 e Q q =>
  ⟨_, hv, h H1 e _ fun b ys H2 hb e2 hy aly => ⟨p, b, xs, ys, rfl, rfl, ex_lst (e.trans e2) hp, hy, sz_of (by rw [al.length, aly.length]; exact hl), fun r hr =>
    q r _ _ (fresh_back e2 hr) (e2.trans (Ex.new hr)) upd_same (((al.ex (e.trans e2)).ex (Ex.new hr)).app (aly.ex (Ex.new hr)))⟩⟩
theorem evd_max2 {i j : Int} (ha : EvD K C ta σ H (.int i)) (hb : EvD K C tb σ H (.int j)) : EvD K C (tCB (fun xs H Q => ∃ i j, xs = [.int i, .int j] ∧ Q (.int (if j > i then j else i)) H) (tCons ta (tCons tb tNil))) σ H (.int (if j > i then j else i)) := fun H1 e Q q =>
  ha H1 e _ fun v H2 e2 t => hb H2 (e.trans e2) _ fun u H3 e3 t' => by
    cases t; cases t'
    exact ⟨i, j, rfl, q _ H3 (e2.trans e3) (.int _)⟩
theorem evd_min2 {i j : Int} (ha : EvD K C ta σ H (.int i)) (hb : EvD K C tb σ H (.int j)) : EvD K C (tCB (fun xs H Q => ∃ i j, xs = [.int i, .int j] ∧ Q (.int (if j < i then j else i)) H) (tCons ta (tCons tb tNil))) σ H (.int (if j < i then j else i)) := fun H1 e Q q =>
  ha H1 e _ fun v H2 e2 t => hb H2 (e.trans e2) _ fun u H3 e3 t' => by
    cases t; cases t'
    exact ⟨i, j, rfl, q _ H3 (e2.trans e3) (.int _)⟩
end
section
variable {P : Program} {w : World} {K : PySem.W.Frag} {mg : Str → Option Value} {base : Heap} {C Pt : Addr}
/-! _law_vat -/
abbrev s__law_vat : Stmt := topS 49
theorem sc__law_vat : FnScope ["_law_script", "_law_spot", "_law_cell", "_law_great", "_law_start"] ["_law_script", "_law_spot"] (defScope s__law_vat) := ⟨rfl, rfl, rfl, by decide +kernel, rfl, by decide +kernel, by decide +kernel⟩
def sp__law_vat (K : PySem.W.Frag) (C : Addr) : Sp := fun vs H Q _ => ∃ (s : Addr) (ns : List Int) (k : Nat), vs = [.ref s, .int (k : Int)] ∧ SqL K H s (ns.map V.int) ∧ ∀ p H', H p = none → Ex H H' → VatAt H' p → Q (.ref p) H'
theorem ok__law_vat {f : Addr} {fd : FuncData} (F : Fun K "_law_vat" "_law_vat" s__law_vat f fd) (T : Bt mg) : FnOk P w K mg base CX0 1 f fd ["_law_script", "_law_spot"] (sp__law_vat K C) := by
  refine F.ok sc__law_vat (fun vs H Q E ⟨a, n, k, h, _⟩ => by rw [h]; rfl) fun cdv A outer s H vs Q E hr h => ?_
  obtain ⟨a, ns, k, rfl, hs, q⟩ := h
  have nd := sc__law_vat.nd
  refine ⟨_, pss_cons (ps_set (i := 2) nd rfl (Or.inl rfl) (pe_ifExp (pt_cmpR op_lt (pv 1) (pe_callB call_len_seq (by rfl) T.len PySem.boot_len (pa_cons (pv 0) pa_nil)) (nomark _)) (pe_callTy call_int1 (by rfl) T.int (by decide +kernel) (pa_cons (pe_ix ix_list (pv 0) (pv 1) (fun _ _ => rfl)) pa_nil)) (pe_op op_add (pe_op op_add (pe_op op_mul pe_int (pv 1)) pe_int) (pe_op op_modN (pe_callTy call_int1 (by rfl) T.int (by decide +kernel) (pa_cons (pe_callB (cr_sum rfl) (by rfl) T.sum (by decide +kernel) (pa_cons (pe_slice sl_list (pv 0) po_none (po_some pe_int)) pa_nil)) pa_nil)) pe_int))))
    (pss_cons (ps_set (i := 3) nd rfl (Or.inl rfl) (pe_op op_modN (pe_callB call_abs (by rfl) T.abs (by decide +kernel) (pa_cons (pv 2) pa_nil)) (pe_op op_powB (pe_op op_powB pe_int pe_int) pe_int)))
    (pss_cons (ps_set (i := 4) nd rfl (Or.inl rfl) (pe_op op_add (pe_op op_add (pe_op op_add (pe_op op_mul (pe_op op_modN (pv 3) pe_int) pe_int) (pe_op op_mul pe_int (pv 1))) (pe_op op_mul pe_int (pe_callTy call_int1 (by rfl) T.int (by decide +kernel) (pa_cons (pe_cmpR op_lt (pv 2) pe_int (nomark _)) pa_nil)))) pe_int))
    (pss_one (ps_ret (pe_lst (pa_cons (pe_callB (call_max2 rfl) (by rfl) T.max (by decide +kernel) (pa_cons pe_int (pa_cons (pe_op op_sub (pv 3) (pe_op op_powB pe_int pe_int)) pa_nil))) (pa_cons (pv 4) (pa_cons pe_int pa_nil)))))))), ?_⟩
  have ts : ∀ H', Ex H H' → Tp K C H' (.ref a) (.lst (ns.map Dt.int)) := fun H' e => .lst (ex_l e hs) (TpAll.ofInts ns)
  have t0 := ts H (Ex.refl _)
  have tk : Tp K C H (.int (k : Int)) (.int (k : Int)) := .int _
  refine do_seq (do_set (K := K) (C := C) (d := .int (if h : k < ns.length then ns[k] else 1709 * (k : Int) + 89 + (ns.take 1).sum.fmod 1000121)) (evd_if (b := decide ((k : Int) < (ns.map Dt.int).length)) (evt_test (K := K) (C := C) (evd_lt (evd_var rfl tk) (evd_lenL (evd_var rfl t0)))) (fun hb => ?_) fun hb => ?_) fun v2 H2 e2 t2 => ?_)
  · have hk : k < ns.length := by simpa using hb
    rw [dif_pos hk]
    exact evd_int1i (evd_ixL (n := k) (evd_var rfl t0) (evd_var rfl tk) rfl (by rw [List.getElem?_map, List.getElem?_eq_getElem hk]; rfl))
  · have hk : ¬ k < ns.length := by simpa using hb
    rw [dif_neg hk]
    exact evd_add (evd_add (evd_mul evd_int (evd_var rfl tk) (.inl ⟨by decide, by decide⟩)) evd_int) (evd_modN (evd_int1i (evd_sum ((evn_slL (evd_var rfl t0) evp_none (evp_int (i := 1))).to (by rw [show (1 : Int) = ((1 : Nat) : Int) from rfl, cutD_take, ← List.map_take])))) evd_int (by decide))
  · generalize (if h : k < ns.length then ns[k] else 1709 * (k : Int) + 89 + (ns.take 1).sum.fmod 1000121) = cell at t2
    refine do_seq (do_set (K := K) (C := C) (evd_modN (evd_abs (evd_var rfl t2)) (evd_pow (evd_pow (evd_int (i := 10)) (evd_int (i := 55)) ⟨by decide, by decide +kernel⟩) (evd_int (i := 8)) ⟨by decide, by decide +kernel⟩) (by decide +kernel)) fun v3 H3 e3 t3 => ?_)
    refine do_seq (do_set (K := K) (C := C) (evd_add (evd_add (evd_add (evd_mul (evd_modN (evd_var rfl t3) evd_int (by decide)) evd_int (.inr ⟨by decide, by decide⟩)) (evd_mul evd_int (evd_var rfl (.int (k : Int))) (.inl ⟨by decide, by decide⟩))) (evd_mul evd_int (evd_int1b (evd_lt (evd_var rfl (t2.ex e3)) evd_int)) (.inl ⟨by decide, by decide⟩))) evd_int) fun v4 H4 e4 t4 => ?_)
    refine do_retN (K := K) (C := C) (evn_lst (eds_cons (evd_max2 evd_int (evd_sub (evd_var rfl (t3.ex e4)) (evd_pow (evd_int (i := 10)) (evd_int (i := 15)) ⟨by decide, by decide +kernel⟩))) (eds_cons (evd_var rfl t4) (eds_cons evd_int eds_nil))) (by simp)) fun p xs H5 hp e5 hx al => ?_
    have e05 := ((e2.trans e3).trans e4).trans e5
    obtain _ | ⟨u1, _ | ⟨u2, _ | ⟨u3, _ | _⟩⟩⟩ := al
    cases u1; cases u2; cases u3
    exact q p H5 (fresh_back ((e2.trans e3).trans e4) hp) e05 ⟨_, _, _, hx⟩
/-! _law_added, _law_times -/
abbrev s__law_added : Stmt := topS 52
theorem sc__law_added : FnScope ["_law_one", "_law_other"] ["_law_one", "_law_other"] (defScope s__law_added) := ⟨rfl, rfl, rfl, by decide +kernel, rfl, by decide +kernel, by decide +kernel⟩
def R__law_added (ds : List Dt) (d : Dt) : Prop := ∃ x y : Gd, ds = [gdD x, gdD y] ∧ d = gdD (x + y)
abbrev sp__law_added (K : PySem.W.Frag) (C : Addr) : Sp := spP K C R__law_added
theorem ok__law_added {f : Addr} {fd : FuncData} (F : Fun K "_law_added" "_law_added" s__law_added f fd) : FnOk P w K mg base CX0 1 f fd ["_law_one", "_law_other"] (sp__law_added K C) := by
  refine F.ok sc__law_added (spP_len (n := 2) fun ds d ⟨S, st, h, _⟩ => by rw [h]; rfl) fun cdv A outer s H vs Q E hr h => ?_
  obtain ⟨ds, d, al, ⟨x, y, rfl, rfl⟩, q⟩ := h
  obtain _ | ⟨t0, _ | ⟨t1, _ | _⟩⟩ := al
  have nd := sc__law_added.nd
  refine ⟨_, pss_one (ps_ret (pe_tup (pa_cons (pe_op op_add (pe_ix ix_tup (pv 0) pe_int (fun _ _ => rfl)) (pe_ix ix_tup (pv 1) pe_int (fun _ _ => rfl))) (pa_cons (pe_op op_add (pe_ix ix_tup (pv 0) pe_int (fun _ _ => rfl)) (pe_ix ix_tup (pv 1) pe_int (fun _ _ => rfl))) pa_nil)))), ?_⟩
  exact do_ret (K := K) (C := C) (evd_tup (eds_cons (evd_add (evd_ixT (n := 0) (evd_var rfl t0) evd_int rfl rfl) (evd_ixT (n := 0) (evd_var rfl t1) evd_int rfl rfl)) (eds_cons (evd_add (evd_ixT (n := 1) (evd_var rfl t0) evd_int rfl rfl) (evd_ixT (n := 1) (evd_var rfl t1) evd_int rfl rfl)) eds_nil)) (by simp)) q
abbrev s__law_times : Stmt := topS 53
theorem sc__law_times : FnScope ["_law_one", "_law_other", "_law_both"] ["_law_one", "_law_other"] (defScope s__law_times) := ⟨rfl, rfl, rfl, by decide +kernel, rfl, by decide +kernel, by decide +kernel⟩
def R__law_times (ds : List Dt) (d : Dt) : Prop := ∃ f x : Gd, ds = [gdD f, gdD x] ∧ Lo f ∧ d = gdD (f * x)
abbrev sp__law_times (K : PySem.W.Frag) (C : Addr) : Sp := spP K C R__law_times
theorem ok__law_times {f : Addr} {fd : FuncData} (F : Fun K "_law_times" "_law_times" s__law_times f fd) : FnOk P w K mg base CX0 1 f fd ["_law_one", "_law_other"] (sp__law_times K C) := by
  refine F.ok sc__law_times (spP_len (n := 2) fun ds d ⟨S, st, h, _⟩ => by rw [h]; rfl) fun cdv A outer s H vs Q E hr h => ?_
  obtain ⟨ds, d, al, ⟨g, x, rfl, ⟨g1, g2, g3, g4, _⟩, rfl⟩, q⟩ := h
  obtain _ | ⟨t0, _ | ⟨t1, _ | _⟩⟩ := al
  have nd := sc__law_times.nd
  refine ⟨_, pss_cons (ps_set (i := 2) nd rfl (Or.inl rfl) (pe_op op_mul (pe_ix ix_tup (pv 0) pe_int (fun _ _ => rfl)) (pe_ix ix_tup (pv 1) pe_int (fun _ _ => rfl))))
    (pss_one (ps_ret (pe_tup (pa_cons (pe_op op_add (pe_op op_mul (pe_ix ix_tup (pv 0) pe_int (fun _ _ => rfl)) (pe_ix ix_tup (pv 1) pe_int (fun _ _ => rfl))) (pv 2)) (pa_cons (pe_op op_add (pe_op op_add (pe_op op_mul (pe_ix ix_tup (pv 0) pe_int (fun _ _ => rfl)) (pe_ix ix_tup (pv 1) pe_int (fun _ _ => rfl))) (pe_op op_mul (pe_ix ix_tup (pv 0) pe_int (fun _ _ => rfl)) (pe_ix ix_tup (pv 1) pe_int (fun _ _ => rfl)))) (pv 2)) pa_nil))))), ?_⟩
  have ca : ∀ z : Int, CMul g.a z := fun z => .inl ⟨by omega, by omega⟩
  have cb : ∀ z : Int, CMul g.b z := fun z => .inl ⟨by omega, by omega⟩
  refine do_seq (do_set (K := K) (C := C) (evd_mul (evd_ixT (n := 1) (evd_var rfl t0) evd_int rfl rfl) (evd_ixT (n := 1) (evd_var rfl t1) evd_int rfl rfl) (cb _)) fun v2 H2 e2 t2 => ?_)
  have u0 := t0.ex e2
  have u1 := t1.ex e2
  refine do_ret (K := K) (C := C) (d := gdD (g * x)) (evd_tup (eds_cons (evd_add (evd_mul (evd_ixT (n := 0) (evd_var rfl u0) evd_int rfl rfl) (evd_ixT (n := 0) (evd_var rfl u1) evd_int rfl rfl) (ca _)) (evd_var rfl t2)) (eds_cons (evd_add (evd_add (evd_mul (evd_ixT (n := 0) (evd_var rfl u0) evd_int rfl rfl) (evd_ixT (n := 1) (evd_var rfl u1) evd_int rfl rfl) (ca _)) (evd_mul (evd_ixT (n := 1) (evd_var rfl u0) evd_int rfl rfl) (evd_ixT (n := 0) (evd_var rfl u1) evd_int rfl rfl) (cb _))) (evd_var rfl t2)) eds_nil)) (by simp)) fun v H3 e3 t => q v H3 (e2.trans e3) t
/-! _law_is_low -/
abbrev s__law_is_low : Stmt := topS 54
theorem sc__law_is_low : FnScope ["_law_row", "_law_whole", "_law_part", "_law_twice"] ["_law_row"] (defScope s__law_is_low) := ⟨rfl, rfl, rfl, by decide +kernel, rfl, by decide +kernel, by decide +kernel⟩
def R__law_is_low (ds : List Dt) (d : Dt) : Prop := ∃ r : List Gd, ds = [rowD r] ∧ smallR r ∧ r.length ≤ 1000 ∧ d = .bl (lowRow r)
abbrev sp__law_is_low (K : PySem.W.Frag) (C : Addr) : Sp := spP K C R__law_is_low
theorem ok__law_is_low {f : Addr} {fd : FuncData} (F : Fun K "_law_is_low" "_law_is_low" s__law_is_low f fd) : FnOk P w K mg base CX0 1 f fd ["_law_row"] (sp__law_is_low K C) := by
  refine F.ok sc__law_is_low (spP_len (n := 1) fun ds d ⟨S, h, _⟩ => by rw [h]; rfl) fun cdv A outer s H vs Q E hr h => ?_
  obtain ⟨ds, d, al, ⟨r, rfl, hsm, hrl, rfl⟩, q⟩ := h
  obtain _ | ⟨t0, _ | _⟩ := al
  rename_i x0
  have nd := sc__law_is_low.nd
  refine ⟨_, pss_cons (ps_for PassesOwn.never rfl (pi_tup (pv 0)) (pg_tup rfl (pgs_cons (pg_name (i := 1) nd rfl (Or.inl rfl)) (pgs_cons (pg_name (i := 2) nd rfl (Or.inl rfl)) pgs_nil))) (pss_cons (ps_set (i := 3) nd rfl (Or.inl rfl) (pe_op op_add (pe_op op_mulW pe_int (pv 1)) (pv 2)))
    (pss_cons (ps_if (PW.pt (pw_and (pt_cmpR op_lt (pv 3) pe_int (nomark _)) (pw_and1 (PW.pt (pw_or (pt_cmpR op_le (pv 2) pe_int (nomark _)) (pw_or1 (pt_cmpR op_gt (pe_op op_mulW (pv 3) (pv 3)) (pe_op op_mulW (pe_op op_mulW pe_int (pv 2)) (pv 2)) (nomark _)))))))) (pss_one (ps_ret pe_bl)) (pss_nil))
    (pss_one (ps_if (PW.pt (pw_and (pt_cmpR op_ge (pv 3) pe_int (nomark _)) (pw_and (pt_cmpR op_lt (pv 2) pe_int (nomark _)) (pw_and1 (pt_cmpR op_lt (pe_op op_mulW (pv 3) (pv 3)) (pe_op op_mulW (pe_op op_mulW pe_int (pv 2)) (pv 2)) (nomark _)))))) (pss_one (ps_ret pe_bl)) (pss_nil))))))
    (pss_one (ps_ret pe_bl)), ?_⟩
  have med : ∀ i : Int, Small i → Med (2 * i) ∧ Med (5 * i) ∧ Med i := fun i h => by
    have h3 : (2 : Nat) ^ 1003 = 8 * 2 ^ 1000 := Nat.pow_add 2 3 1000
    have h4 : (2 : Nat) ^ 1003 ≤ 2 ^ 3000 := Nat.pow_le_pow_right (by decide) (by decide)
    unfold Small at h
    unfold Med
    generalize (2 : Nat) ^ 3000 = B at *
    generalize (2 : Nat) ^ 1003 = B' at *
    generalize (2 : Nat) ^ 1000 = B'' at *
    refine ⟨?_, ?_, ?_⟩ <;> omega
  have medT : ∀ i j : Int, Small i → Small j → Med (2 * i + j) := fun i j h h' => by
    have h3 : (2 : Nat) ^ 1003 = 8 * 2 ^ 1000 := Nat.pow_add 2 3 1000
    have h4 : (2 : Nat) ^ 1003 ≤ 2 ^ 3000 := Nat.pow_le_pow_right (by decide) (by decide)
    unfold Small at h h'
    unfold Med
    generalize (2 : Nat) ^ 3000 = B at *
    generalize (2 : Nat) ^ 1003 = B' at *
    generalize (2 : Nat) ^ 1000 = B'' at *
    omega
  have m2 : Med 2 := by unfold Med; exact Nat.lt_of_lt_of_le (by decide : (2 : Int).natAbs < 2 ^ 2) (Nat.pow_le_pow_right (by decide) (by decide))
  have m5 : Med 5 := by unfold Med; exact Nat.lt_of_lt_of_le (by decide : (5 : Int).natAbs < 2 ^ 3) (Nat.pow_le_pow_right (by decide) (by decide))
  let Pv : Nat → L2.St → Hp → Prop := fun k σ H' => Ex H H' ∧ (∀ x ∈ r.take k, Gd.isLow x = false) ∧ ∃ (o1 o2 o3 : Option V), σ = [some x0, o1, o2, o3]
  refine do_seq (do_for (K := K) (C := C) (ds := r.map gdD) (evib_tup rfl t0) (Ex.refl _) Pv (fun H2 e2 => ⟨e2, by simp, none, none, none, rfl⟩) (fun k σ2 H2 z => z.1) ?_ ?_)
  · rintro k d x σ2 H2 H3 hd ⟨e2, hlow, o1, o2, o3, rfl⟩ e3 tx
    rw [List.getElem?_map] at hd
    cases hk : r[k]? with
    | none => rw [hk] at hd; simp at hd
    | some y =>
      rw [hk] at hd
      cases hd
      obtain ⟨sa, sb⟩ := hsm y (List.mem_of_getElem? hk)
      obtain ⟨_, ma5, ma⟩ := med y.a sa
      obtain ⟨_, mb5, mb⟩ := med y.b sb
      have mt := medT y.a y.b sa sb
      refine g_two tx fun v1 v2 t1 t2 => ?_
      refine do_seq (do_set (K := K) (C := C) (evd_add (evd_mulW evd_int (evd_var rfl t1) (med_mul m2 ma)) (evd_var rfl t2)) fun v3 H4 e4 t3 => ?_)
      have u2 := t2.ex e4
      have ht : ∀ b : Bool, (b = true → Gd.isLow y = true) → True := fun _ _ => trivial
      have hyr : y ∈ r := List.mem_of_getElem? hk
      have isl : Gd.isLow y = true → lowRow r = true := fun h => by
        unfold lowRow
        rw [List.any_eq_true]
        exact ⟨y, hyr, by rw [← Gd.isLow_eq]; exact h⟩
      have ret : ∀ H5, Ex H4 H5 → Gd.isLow y = true → ∀ v H6, Ex H5 H6 → Tp K C H6 v (.bl true) → Q v H6 := fun H5 e5 hl v H6 e6 t => q v H6 ((((e2.trans e3).trans e4).trans e5).trans e6) (by rw [isl hl]; exact t)
      refine do_seq (do_if (et_and (evt_test (K := K) (C := C) (evd_lt (evd_var rfl t3) evd_int)) fun _ => et_or (evt_test (K := K) (C := C) (evd_le (evd_var rfl u2) evd_int)) fun _ => evt_test (K := K) (C := C) (evd_gt (evd_mulW (evd_var rfl t3) (evd_var rfl t3) (med_mul mt mt)) (evd_mulW (evd_mulW evd_int (evd_var rfl u2) (med_mul m5 mb)) (evd_var rfl u2) (med_mul mb5 mb)))) (fun hb H5 e5 => ?_) fun hb H5 e5 => ?_)
      · exact do_ret (K := K) (C := C) (d := .bl true) evd_bl (ret H5 e5 (by unfold Gd.isLow; simp only [hb, Bool.true_or]))
      · have u3 := t3.ex e5
        have u2' := u2.ex e5
        refine do_if (et_and (evt_test (K := K) (C := C) (evd_ge (evd_var rfl u3) evd_int)) fun _ => et_and (evt_test (K := K) (C := C) (evd_lt (evd_var rfl u2') evd_int)) fun _ => evt_test (K := K) (C := C) (evd_lt (evd_mulW (evd_var rfl u3) (evd_var rfl u3) (med_mul mt mt)) (evd_mulW (evd_mulW evd_int (evd_var rfl u2') (med_mul m5 mb)) (evd_var rfl u2') (med_mul mb5 mb)))) (fun hc H6 e6 => ?_) fun hc H6 e6 => ?_
        · refine do_ret (K := K) (C := C) (d := .bl true) evd_bl (ret H6 (e5.trans e6) ?_)
          unfold Gd.isLow
          simp only [hb, Bool.false_or]
          rw [Bool.and_assoc]; exact hc
        · refine ⟨(((e2.trans e3).trans e4).trans e5).trans e6, fun z hz => ?_, _, _, _, rfl⟩
          rw [List.take_add_one, hk] at hz
          rcases List.mem_append.mp hz with hz | hz
          · exact hlow z hz
          · have : z = y := by simpa using hz
            subst this
            unfold Gd.isLow
            simp only [hb, Bool.false_or]
            rw [Bool.and_assoc]; exact hc
  · rintro σ2 H2 ⟨e2, hlow, o1, o2, o3, rfl⟩
    rw [List.length_map, List.take_length] at hlow
    have : lowRow r = false := by
      cases h : lowRow r with
      | false => rfl
      | true =>
        unfold lowRow at h
        rw [List.any_eq_true] at h
        obtain ⟨x, hx, hb⟩ := h
        have := hlow x hx
        rw [Gd.isLow_eq, hb] at this
        cases this
    rw [this] at q
    exact do_ret (D := { nx := fun _ H2 => Q .non H2, rt := Q }) (σ := [some x0, o1, o2, o3]) (K := K) (C := C) (d := .bl false) evd_bl fun v H3 e3 t => q v H3 (e2.trans e3) t
end
end UW
namespace UW
open PySem PySem.Spec PyProof.Rows L2 Evl StX SlX ClX RZ
/-! drawn systems -/
abbrev SyB := Nat × List Bo
def sysD (p : SyB) : Dt := .tup [.int (p.1 : Int), bondsD p.2]
@[simp] theorem noL_sysD {p : SyB} : noL (sysD p) = true := by unfold sysD; simp
def toldA : List SyB := [(1, []), (2, [(0, 1, 3)]), (3, [(0, 1, 3), (1, 2, 3)]), (4, [(0, 1, 3), (1, 2, 3), (2, 3, 3)])]
def toldB : List SyB := [(2, [(0, 1, 4)]), (3, [(0, 1, 4), (1, 2, 3)]), (3, [(0, 1, 5), (1, 2, 3)]), (2, [(0, 1, 6)])]
def toldC : List SyB := [(2, [(0, 1, 5)]), (2, [(0, 1, 0)]), (3, [(0, 1, 3), (0, 2, 3), (1, 2, 3)]), (2, []), (4, [])]
def toldE : List SyB := [(3, [(0, 2, 5)]), (4, [(0, 1, 3), (2, 3, 4)]), (4, [(0, 1, 3), (1, 2, 3), (1, 3, 3)])]
def told : List SyB := toldA ++ toldB ++ toldC ++ toldE
def vbB (n : Nat) (bs : List Bo) : Bool := (decide (1 ≤ n) && decide (n ≤ 4) && decide (bs.length ≤ 100) && bs.all (fun b => decide (b.1 < b.2.1) && decide (b.2.1 < n) && (decide (b.2.2 = 0) || decide (b.2.2 = 3) || decide (b.2.2 = 4) || decide (b.2.2 = 5) || decide (b.2.2 = 6))) &&
    (List.zipWith (fun a b => decide (a.1 < b.1) || (decide (a.1 = b.1) && decide (a.2.1 < b.2.1))) bs (bs.drop 1)).all id)
theorem told_ok : ∀ p ∈ told, VB p.1 p.2 := by
  have h : told.all (fun p => vbB p.1 p.2) = true := by decide
  rw [List.all_eq_true] at h
  exact fun p hp => vb_of (h p hp)
/-! displays of constants, the context a letter -/
section
variable {X : Cx} {a b c a' b' c' a2 b2 c2 n : Int} {k1 k2 k3 k4 k5 k6 k7 k8 k9 k10 m1 m2 m3 m4 m5 : Nat} {p1 p2 p3 p4 p5 p6 p7 p8 p9 p10 q1 q2 q3 q4 q5 : Pos}
abbrev cI (i : Int) (k : Nat) (p : Pos) : Expr := .Constant (.int i) k p
abbrev tI (i : Int) : TE := tC (.int i)
abbrev tBo (a b c : Int) : TE := tTup (tCons (tI a) (tCons (tI b) (tCons (tI c) tNil)))
theorem pe_bo : PE X (.Tuple [cI a k1 p1, cI b k2 p2, cI c k3 p3] m1 q1) (tBo a b c) := pe_tup (pa_cons pe_int (pa_cons pe_int (pa_cons pe_int pa_nil)))
abbrev tS0 (n : Int) : TE := tTup (tCons (tI n) (tCons (tTup tNil) tNil))
abbrev tS1 (n a b c : Int) : TE := tTup (tCons (tI n) (tCons (tTup (tCons (tBo a b c) tNil)) tNil))
abbrev tS2 (n a b c a' b' c' : Int) : TE := tTup (tCons (tI n) (tCons (tTup (tCons (tBo a b c) (tCons (tBo a' b' c') tNil))) tNil))
abbrev tS3 (n a b c a' b' c' a2 b2 c2 : Int) : TE := tTup (tCons (tI n) (tCons (tTup (tCons (tBo a b c) (tCons (tBo a' b' c') (tCons (tBo a2 b2 c2) tNil)))) tNil))
theorem pe_s0 : PE X (.Tuple [cI n k10 p10, .Tuple [] m4 q4] m5 q5) (tS0 n) := pe_tup (pa_cons pe_int (pa_cons (pe_tup pa_nil) pa_nil))
theorem pe_s1 : PE X (.Tuple [cI n k10 p10, .Tuple [.Tuple [cI a k1 p1, cI b k2 p2, cI c k3 p3] m1 q1] m4 q4] m5 q5) (tS1 n a b c) := pe_tup (pa_cons pe_int (pa_cons (pe_tup (pa_cons pe_bo pa_nil)) pa_nil))
theorem pe_s2 : PE X (.Tuple [cI n k10 p10, .Tuple [.Tuple [cI a k1 p1, cI b k2 p2, cI c k3 p3] m1 q1, .Tuple [cI a' k4 p4, cI b' k5 p5, cI c' k6 p6] m2 q2] m4 q4] m5 q5) (tS2 n a b c a' b' c') := pe_tup (pa_cons pe_int (pa_cons (pe_tup (pa_cons pe_bo (pa_cons pe_bo pa_nil))) pa_nil))
theorem pe_s3 : PE X (.Tuple [cI n k10 p10, .Tuple [.Tuple [cI a k1 p1, cI b k2 p2, cI c k3 p3] m1 q1, .Tuple [cI a' k4 p4, cI b' k5 p5, cI c' k6 p6] m2 q2, .Tuple [cI a2 k7 p7, cI b2 k8 p8, cI c2 k9 p9] m3 q3] m4 q4] m5 q5) (tS3 n a b c a' b' c' a2 b2 c2) :=
  pe_tup (pa_cons pe_int (pa_cons (pe_tup (pa_cons pe_bo (pa_cons pe_bo (pa_cons pe_bo pa_nil)))) pa_nil))
variable {e1 e2 e3 e4 e5 : Expr} {t1 t2 t3 t4 t5 : TE}
theorem pa_3 (h1 : PE X e1 t1) (h2 : PE X e2 t2) (h3 : PE X e3 t3) (s1 : starEach [e1, e2, e3] X.env = (false, eval e1 X.env) :: starEach [e2, e3] X.env) (s2 : starEach [e2, e3] X.env = (false, eval e2 X.env) :: starEach [e3] X.env) (s3 : starEach [e3] X.env = (false, eval e3 X.env) :: starEach [] X.env) :
    PA X [e1, e2, e3] (tCons t1 (tCons t2 (tCons t3 tNil))) := pa_cons h1 (pa_cons h2 (pa_cons h3 pa_nil s3) s2) s1
end
section
variable {K : PySem.W.Frag} {C : Addr} {σ : L2.St} {H : Hp}
theorem evd_bo (a b c : Nat) : EvD K C (tBo a b c) σ H (bondD (a, b, c)) := evd_tup (eds_cons evd_int (eds_cons evd_int (eds_cons evd_int eds_nil))) (by simp)
theorem evd_s0 (n : Nat) : EvD K C (tS0 n) σ H (sysD (n, [])) := evd_tup (eds_cons evd_int (eds_cons (evd_tup eds_nil (by simp)) eds_nil)) (by simp)
theorem evd_s1 (n a b c : Nat) : EvD K C (tS1 n a b c) σ H (sysD (n, [(a, b, c)])) := evd_tup (eds_cons evd_int (eds_cons (evd_tup (eds_cons (evd_bo a b c) eds_nil) (by simp)) eds_nil)) (by simp)
theorem evd_s2 (n a b c a' b' c' : Nat) : EvD K C (tS2 n a b c a' b' c') σ H (sysD (n, [(a, b, c), (a', b', c')])) := evd_tup (eds_cons evd_int (eds_cons (evd_tup (eds_cons (evd_bo a b c) (eds_cons (evd_bo a' b' c') eds_nil)) (by simp)) eds_nil)) (by simp)
theorem evd_s3 (n a b c a' b' c' a2 b2 c2 : Nat) : EvD K C (tS3 n a b c a' b' c' a2 b2 c2) σ H (sysD (n, [(a, b, c), (a', b', c'), (a2, b2, c2)])) :=
  evd_tup (eds_cons evd_int (eds_cons (evd_tup (eds_cons (evd_bo a b c) (eds_cons (evd_bo a' b' c') (eds_cons (evd_bo a2 b2 c2) eds_nil))) (by simp)) eds_nil)) (by simp)
end
section
variable {P : Program} {w : World} {K : PySem.W.Frag} {mg : Str → Option Value} {base : Heap} {C Pt : Addr}
abbrev s__law_told_systems : Stmt := topS 63
theorem sc__law_told_systems : FnScope ["_law_found"] [] (defScope s__law_told_systems) := ⟨rfl, rfl, rfl, by decide +kernel, rfl, by decide +kernel, by decide +kernel⟩
def R__law_told_systems (ds es : List Dt) : Prop := ds = [] ∧ es = told.map sysD
abbrev sp__law_told_systems (K : PySem.W.Frag) (C : Addr) : Sp := spN K C R__law_told_systems
theorem told_body {X : Cx} (nd : X.N.Nodup) (h0 : X.N[0]? = some ("_law_found" : Str)) (hl : X.env.scope.names.lookup ("_law_found" : Str) = some NameKind.local) (hf : X.fn ("_law_found" : Str) = true) : ∃ t, PSs X (defBody s__law_told_systems) t ∧ t = tSeq (tAsg (tLst (tCons (tS0 1) (tCons (tS1 2 0 1 3) (tCons (tS2 3 0 1 3 1 2 3) (tCons (tS3 4 0 1 3 1 2 3 2 3 3) tNil))))) (gName 0))
    (tSeq (tAsg (tOp rCat (tVar 0) (tLst (tCons (tS1 2 0 1 4) (tCons (tS2 3 0 1 4 1 2 3) (tCons (tS2 3 0 1 5 1 2 3) (tCons (tS1 2 0 1 6) tNil)))))) (gName 0))
    (tSeq (tAsg (tOp rCat (tVar 0) (tLst (tCons (tS1 2 0 1 5) (tCons (tS1 2 0 1 0) (tCons (tS3 3 0 1 3 0 2 3 1 2 3) (tCons (tS0 2) (tCons (tS0 4) tNil))))))) (gName 0))
    (tRet (tOp rCat (tVar 0) (tLst (tCons (tS1 3 0 2 5) (tCons (tS2 4 0 1 3 2 3 4) (tCons (tS3 4 0 1 3 1 2 3 1 3 3) tNil)))))))) := by
  refine ⟨_, pss_cons (ps_set (i := 0) nd h0 (Or.inl hl) (hf := .inl hf) (pe_lst (pa_cons pe_s0 (pa_cons pe_s1 (pa_cons pe_s2 (pa_cons pe_s3 pa_nil))))))
    (pss_cons (ps_set (i := 0) nd h0 (Or.inl hl) (hf := .inl hf) (pe_op op_cat (pe_var h0 (.inl hl)) (pe_lst (pa_cons pe_s1 (pa_cons pe_s2 (pa_cons pe_s2 (pa_cons pe_s1 pa_nil)))))))
    (pss_cons (ps_set (i := 0) nd h0 (Or.inl hl) (hf := .inl hf) (pe_op op_cat (pe_var h0 (.inl hl)) (pe_lst (pa_cons pe_s1 (pa_cons pe_s1 (pa_cons pe_s3 (pa_cons pe_s0 (pa_cons pe_s0 pa_nil))))))))
    (pss_one (ps_ret (pe_op op_cat (pe_var h0 (.inl hl)) (pe_lst (pa_cons pe_s1 (pa_cons pe_s2 (pa_cons pe_s3 pa_nil))))))))), rfl⟩
theorem told_read {H : Hp} {Q : VK} {u1 u2 u3 u4 : TE} (h1 : ∀ σ H, EvN K C u1 σ H (toldA.map sysD)) (h2 : ∀ σ H, EvN K C u2 σ H (toldB.map sysD)) (h3 : ∀ σ H, EvN K C u3 σ H (toldC.map sysD)) (h4 : ∀ σ H, EvN K C u4 σ H (toldE.map sysD))
    (q : ∀ p xs H', H p = none → Ex H H' → H' p = some (.lst xs) → TpAll K C H' xs (told.map sysD) → Q (.ref p) H') :
    tSeq (tAsg u1 (gName 0)) (tSeq (tAsg (tOp rCat (tVar 0) u2) (gName 0)) (tSeq (tAsg (tOp rCat (tVar 0) u3) (gName 0)) (tRet (tOp rCat (tVar 0) u4)))) { nx := fun _ H' => Q .non H', rt := Q } [none] H := by
  have lA : (toldA.map sysD).length = 4 := by rw [List.length_map]; rfl
  have lB : (toldB.map sysD).length = 4 := by rw [List.length_map]; rfl
  have lC : (toldC.map sysD).length = 5 := by rw [List.length_map]; rfl
  have lE : (toldE.map sysD).length = 3 := by rw [List.length_map]; rfl
  have ht : told.map sysD = toldA.map sysD ++ toldB.map sysD ++ toldC.map sysD ++ toldE.map sysD := by unfold told; simp only [List.map_append]
  rw [ht] at q
  generalize toldA.map sysD = dA at *
  generalize toldB.map sysD = dB at *
  generalize toldC.map sysD = dC at *
  generalize toldE.map sysD = dE at *
  refine do_seq (do_setN (K := K) (C := C) (h1 _ _) fun p1 xs1 H1 hp1 e1 hx1 al1 => ?_)
  refine do_seq (do_setN (K := K) (C := C) (evn_catV rfl hx1 al1 (h2 _ _) (by rw [lA, lB]; omega)) fun p2 xs2 H2 hp2 e2 hx2 al2 => ?_)
  refine do_seq (do_setN (K := K) (C := C) (evn_catV rfl hx2 al2 (h3 _ _) (by rw [List.length_append, lA, lB, lC]; omega)) fun p3 xs3 H3 hp3 e3 hx3 al3 => ?_)
  exact do_retN (K := K) (C := C) (evn_catV rfl hx3 al3 (h4 _ _) (by simp only [List.length_append, lA, lB, lC, lE]; omega)) fun p4 xs4 H4 hp4 e4 hx4 al4 =>
    q p4 xs4 H4 (fresh_back ((e1.trans e2).trans e3) hp4) (((e1.trans e2).trans e3).trans e4) hx4 al4
theorem ok__law_told_systems {f : Addr} {fd : FuncData} (F : Fun K "_law_told_systems" "_law_told_systems" s__law_told_systems f fd) : FnOk P w K mg base CX0 1 f fd [] (sp__law_told_systems K C) := by
  refine F.ok sc__law_told_systems (spN_len (n := 0) fun ds d ⟨h, _⟩ => by rw [h]; rfl) fun cdv A outer s H vs Q E hr h => ?_
  obtain ⟨ds, es, al, ⟨rfl, rfl⟩, q⟩ := h
  cases al
  obtain ⟨t, hp, ht⟩ := told_body (X := (cxOf CX0 P w K mg base ["_law_found"] "_law_told_systems" (defScope s__law_told_systems) f cdv A outer s H E).nox) sc__law_told_systems.nd rfl rfl rfl
  refine ⟨t, hp, ?_⟩
  rw [ht]
  exact told_read (fun σ H => evn_lst (eds_cons (evd_s0 1) (eds_cons (evd_s1 2 0 1 3) (eds_cons (evd_s2 3 0 1 3 1 2 3) (eds_cons (evd_s3 4 0 1 3 1 2 3 2 3 3) eds_nil)))) (by rw [List.length_map]; decide)) (fun σ H => evn_lst (eds_cons (evd_s1 2 0 1 4) (eds_cons (evd_s2 3 0 1 4 1 2 3) (eds_cons (evd_s2 3 0 1 5 1 2 3) (eds_cons (evd_s1 2 0 1 6) eds_nil)))) (by rw [List.length_map]; decide))
    (fun σ H => evn_lst (eds_cons (evd_s1 2 0 1 5) (eds_cons (evd_s1 2 0 1 0) (eds_cons (evd_s3 3 0 1 3 0 2 3 1 2 3) (eds_cons (evd_s0 2) (eds_cons (evd_s0 4) eds_nil))))) (by rw [List.length_map]; decide)) (fun σ H => evn_lst (eds_cons (evd_s1 3 0 2 5) (eds_cons (evd_s2 4 0 1 3 2 3 4) (eds_cons (evd_s3 4 0 1 3 1 2 3 1 3 3) eds_nil))) (by rw [List.length_map]; decide)) q
end
end UW
namespace UW
open PySem PySem.Spec PyProof.Rows L2 Evl StX SlX ClX RZ
section
variable {K : PySem.W.Frag} {C : Addr} {H H' : Hp} {a D : Addr} {o : HO}
theorem ExV.fresh (e : ExV a H H') (h : H' D = none) : H D = none := by
  obtain ⟨x, y, z, ha, e⟩ := e
  have ne : D ≠ a := fun q => by rw [q, ha] at h; cases h
  have := fresh_back e h
  rwa [upd_ne ne] at this
theorem ExV.mut (e : ExV a H H') (h : H D = none) (ne : D ≠ a) : ExV a H (upd H' D o) := by
  obtain ⟨x, y, z, ha, e⟩ := e
  exact ⟨x, y, z, by rw [upd_ne (Ne.symm ne)]; exact ha, e.mut (by rw [upd_ne ne]; exact h)⟩
theorem nat1 (u : List Nat) (r : Nat) : (u.map fun (a : Nat) => Dt.int (a : Int)) ++ [Dt.int (r : Int)] = (u ++ [r]).map fun (a : Nat) => Dt.int (a : Int) := by simp
end
section
variable {P : Program} {w : World} {K : PySem.W.Frag} {mg : Str → Option Value} {base : Heap} {C Pt : Addr}
/-! _law_word -/
abbrev s__law_word : Stmt := topS 65
theorem sc__law_word : FnScope ["_law_vat_here", "_law_letters", "_law_most", "_law_turn"] ["_law_vat_here", "_law_letters", "_law_most"] (defScope s__law_word) := ⟨rfl, rfl, rfl, by decide +kernel, rfl, by decide +kernel, by decide +kernel⟩
def sp__law_word (K : PySem.W.Frag) (C : Addr) : Sp := fun vs H Q _ => ∃ (a : Addr) (n m : Nat), vs = [.ref a, .int (n : Int), .int (m : Int)] ∧ VatAt H a ∧ 0 < n ∧ n ≤ 1000 ∧ m ≤ 1000 ∧ ∀ v u H', ok n u → u.length ≤ m → ExV a H H' → Tp K C H' v (wordD u) → Q v H'
theorem ok__law_word {f : Addr} {fd : FuncData} (F : Fun K "_law_word" "_law_word" s__law_word f fd) (T : Bt mg) (c__law_tap : Cl P w K mg base "_law_tap" 1 (sp__law_tap K C)) : FnOk P w K mg base CX0 2 f fd ["_law_vat_here", "_law_letters", "_law_most"] (sp__law_word K C) := by
  refine F.ok sc__law_word (fun vs H Q E ⟨a, n, m, h, _⟩ => by rw [h]; rfl) fun cdv A outer s H vs Q E hr h => ?_
  obtain ⟨a, n, m, rfl, v, hn, hn2, hm, q⟩ := h
  have nd := sc__law_word.nd
  refine ⟨_, pss_one (ps_ret (pe_callTy call_tuple_of (by rfl) T.tuple (by decide +kernel) (pa_cons (pe_lc (own := [("_law_turn", 3)]) (g := (gName 3)) (tt := tYes) (te := (tCall (sp__law_tap K C) [] E0 (tCons (tVar 0) (tCons (tVar 1) tNil)))) rfl nd (pi_range1 (by rfl) T.range (pa_cons (pe_cl c__law_tap (hr.mono (by decide)) rfl (pa_cons (pv 0) (pa_cons (pe_op op_add (pv 2) pe_int) pa_nil))) pa_nil)) (blkOk_by (own := [("_law_turn", 3)]) (N := ["_law_vat_here", "_law_letters", "_law_most", "_law_turn"]) (sc := defScope s__law_word) (by decide +kernel)) (fun _ _ _ _ _ => (pg_name (i := 3) nd rfl (Or.inl rfl))) (fun _ _ _ _ _ => pts_nil) (fun _ _ _ _ _ => (pe_cl c__law_tap (hr.mono (by decide)) rfl (pa_cons (pv 0) (pa_cons (pv 1) pa_nil))))) pa_nil))), ?_⟩
  refine tap_run (m := m + 1) v rfl (evd_add (evd_var (C := C) rfl (.int (m : Int))) evd_int) (by omega) (by omega) (by omega) fun r H1 hr1 e1 => ?_
  refine ⟨(r : Int), rfl, by omega, by omega, fun D hD => ?_⟩
  refine lc_range (lo := 0) (n := r) (fun k H' => ∃ (u : List Nat) (xs : List V), u.length = k ∧ ok n u ∧ H' D = some (.lst xs) ∧ TpAll K C H' xs (u.map fun (a : Nat) => Dt.int (a : Int)) ∧ ExV a H H') ⟨[], [], rfl, ok_nil, upd_same, .nil, e1.ex (Ex.new hD)⟩ ?_ ?_
  · rintro k H' hk ⟨u, xs, rfl, hu, hx, al, e⟩
    have hne : D ≠ a := (vat_ne e1.at hD).symm
    refine ⟨rfl, ?_⟩
    unfold tYes
    dsimp only
    rw [if_pos rfl]
    refine tap_run (m := n) e.at rfl (evd_var (C := C) rfl (.int (n : Int))) rfl hn (by omega) fun r2 H2 hr2 e2 => ?_
    have hx2 := lst_exv hx hne e2
    have al2 := al.exv (noLs_map (fun _ => noL_int) u) e.at e2
    refine ⟨xs, hx2, sz_lt (by rw [al.length]; simp; omega), u ++ [r2], xs ++ [.int (r2 : Int)], by simp, hu.append (ok_nil.cons hr2), upd_same, ?_, (e.trans e2).mut (e1.fresh hD) hne⟩
    have al3 := al2.app (.cons (.int (r2 : Int)) .nil)
    rw [nat1] at al3
    exact al3.upd ⟨_, hx2⟩ (noLs_map (fun _ => noL_int) _)
  · rintro H' ⟨u, xs, hul, hu, hx, al, e⟩
    exact ⟨D, xs, rfl, .inl ⟨sq_of hx, fun l hl => q (.ref l) u _ hu (by omega) (e.ex (Ex.new hl)) (.tup (st_of upd_same) (al.ex (Ex.new hl)))⟩⟩
/-! _law_grown -/
abbrev s__law_grown : Stmt := topS 67
theorem sc__law_grown : FnScope ["_law_vat_here", "_law_letters", "_law_word_here", "_law_found", "_law_turn", "_law_at", "_law_letter"] ["_law_vat_here", "_law_letters", "_law_word_here"] (defScope s__law_grown) := ⟨rfl, rfl, rfl, by decide +kernel, rfl, by decide +kernel, by decide +kernel⟩
/-- another word of the same member -/
def Grown (n : Nat) (u u' : List Nat) : Prop := ∀ F : List (List Gd), WF n F → Sys n (fac F) → stateL n F u' = stateL n F u
def sp__law_grown (K : PySem.W.Frag) (C : Addr) : Sp := fun vs H Q _ => ∃ (a : Addr) (n : Nat) (u : List Nat) (vw : V), vs = [.ref a, .int (n : Int), vw] ∧ Tp K C H vw (wordD u) ∧ VatAt H a ∧ 0 < n ∧ n ≤ 1000 ∧ ok n u ∧ u.length ≤ 40 ∧ ∀ v u' H', ok n u' → u'.length ≤ 40 → Grown n u u' → ExV a H H' → Tp K C H' v (wordD u') → Q v H'
theorem ok__law_grown {f : Addr} {fd : FuncData} (F : Fun K "_law_grown" "_law_grown" s__law_grown f fd) (T : Bt mg) (c__law_tap : Cl P w K mg base "_law_tap" 1 (sp__law_tap K C)) : FnOk P w K mg base CX0 2 f fd ["_law_vat_here", "_law_letters", "_law_word_here"] (sp__law_grown K C) := by
  refine F.ok sc__law_grown (fun vs H Q E ⟨a, n, u, vw, h, _⟩ => by rw [h]; rfl) fun cdv A outer s H vs Q E hr h => ?_
  obtain ⟨a, n, u, vw, rfl, tw, v, hn, hn2, hu, hul, q⟩ := h
  have nd := sc__law_grown.nd
  refine ⟨_, pss_cons (ps_set (i := 3) nd rfl (Or.inl rfl) (pv 2))
    (pss_cons (ps_for PassesOwn.never rfl (pi_range1 (by rfl) T.range (pa_cons (pe_cl c__law_tap (hr.mono (by decide)) rfl (pa_cons (pv 0) (pa_cons pe_int pa_nil))) pa_nil)) (pg_name (i := 4) nd rfl (Or.inl rfl)) (pss_cons (ps_par (i := 5) (j := 6) rfl nd rfl rfl (by decide) rfl rfl (pa_cons (pe_cl c__law_tap (hr.mono (by decide)) rfl (pa_cons (pv 0) (pa_cons (pe_op op_add (pe_callB call_len_seq (by rfl) T.len PySem.boot_len (pa_cons (pv 3) pa_nil)) pe_int) pa_nil))) (pa_cons (pe_cl c__law_tap (hr.mono (by decide)) rfl (pa_cons (pv 0) (pa_cons (pv 1) pa_nil))) pa_nil)) (by rfl))
    (pss_one (ps_set (i := 3) nd rfl (Or.inl rfl) (pe_op op_catA (pe_op op_catA (pe_slice sl_tupA (pv 3) po_none (po_some (pv 5))) (pe_tup (pa_cons (pv 6) (pa_cons (pv 6) pa_nil)))) (pe_slice sl_tupA (pv 3) (po_some (pv 5)) po_none))))))
    (pss_one (ps_ret (pe_ifExp (pt_cmpR op_le (pe_callB call_len_seq (by rfl) T.len PySem.boot_len (pa_cons (pv 3) pa_nil)) pe_int (nomark _)) (pv 3) (pv 2))))), ?_⟩
  refine do_seq (do_set (K := K) (C := C) (evd_var rfl tw) fun x3 H1 e1 t3 => ?_)
  have v1 := v.ex e1
  refine do_seq ?_
  refine tap_run (m := 4) v1 rfl (evd_int (C := C)) rfl (by omega) (by omega) fun r H2 hr2 e2 => ?_
  refine ⟨(r : Int), rfl, by omega, by omega, ?_⟩
  refine for_range (lo := 0) (n := r) (fun k σ H' => ∃ (x3 : V) (u' : List Nat) (o4 o5 o6 : Option V), σ = [some (.ref a), some (.int (n : Int)), some vw, some x3, o4, o5, o6] ∧ ExV a H H' ∧ Tp K C H' x3 (wordD u') ∧ ok n u' ∧ u'.length ≤ 40 + 2 * k ∧ Grown n u u')
    ⟨x3, u, none, none, none, rfl, (ExV.of v e1).trans e2, t3.exv noL_wordD v1 e2, hu, by omega, fun F _ _ => rfl⟩ ?_ ?_
  · rintro k σ H' hk ⟨y3, u', o4, o5, o6, rfl, e, ty, hu', hl', hg⟩
    have lenu : (u'.map fun (a : Nat) => Dt.int (a : Int)).length = u'.length := by simp
    refine do_seq ?_
    refine tap_run (m := u'.length + 1) e.at rfl (evd_add (evd_lenT (evd_var (C := C) rfl ty)) evd_int) (by rw [lenu]; omega) (by omega) (by omega) fun at_ H3 ha e3 => ?_
    have f3 := e.trans e3
    refine tap_run (m := n) f3.at rfl (evd_var (C := C) rfl (.int (n : Int))) rfl hn (by omega) fun l H4 hln e4 => ?_
    have f4 := f3.trans e4
    have ty4 := (ty.exv noL_wordD e.at e3).exv noL_wordD f3.at e4
    refine ⟨_, _, rfl, ?_⟩
    have ei := (Tp.int (K := K) (C := C) (H := H4) (at_ : Int))
    refine do_set (K := K) (C := C) (d := wordD (u'.take at_ ++ [l, l] ++ u'.drop at_)) ((evd_cat (evd_cat (evd_sl (evd_var rfl ty4) evp_none (evp_some (evd_var rfl ei))) (evd_tup (eds_cons (evd_var rfl (.int (l : Int))) (eds_cons (evd_var rfl (.int (l : Int))) eds_nil)) (by simp)) (by rw [cutD_take]; simp; omega)) (evd_sl (evd_var rfl ty4) (evp_some (evd_var rfl ei)) evp_none) (by rw [cutD_take, cutD_drop]; simp; omega)).to ?_) fun y5 H5 e5 t5 => ?_
    · rw [cutD_take, cutD_drop]
      unfold wordD
      simp [List.map_take, List.map_drop]
    · refine ⟨y5, _, _, _, _, rfl, f4.ex e5, t5, ?_, ?_, ?_⟩
      · exact (ok.append (fun x hx => hu' x (List.mem_of_mem_take hx)) ((ok_nil.cons hln).cons hln)).append fun x hx => hu' x (List.mem_of_mem_drop hx)
      · simp only [List.length_append, List.length_take, List.length_drop, List.length_cons, List.length_nil]; omega
      · intro F W S
        rw [grown_state W S (fun x hx => hu' x (List.mem_of_mem_take hx)) (fun x hx => hu' x (List.mem_of_mem_drop hx)) hln, List.take_append_drop]
        exact hg F W S
  · rintro σ H' ⟨y3, u', o4, o5, o6, rfl, e, ty, hu', hl', hg⟩
    have lenu : (u'.map fun (a : Nat) => Dt.int (a : Int)).length = u'.length := by simp
    by_cases h40 : u'.length ≤ 40
    · exact do_ret (K := K) (C := C) (d := wordD u') (evd_if (b := true) (evt_test ((evd_le (evd_lenT (evd_var (C := C) rfl ty)) (evd_int (K := K) (C := C))).to (by rw [lenu]; congr 1; simp; omega))) (fun _ => evd_var rfl ty) fun h => absurd h (by decide)) fun y H5 e5 t => q y u' H5 hu' h40 hg (e.ex e5) t
    · exact do_ret (K := K) (C := C) (d := wordD u) (evd_if (b := false) (evt_test ((evd_le (evd_lenT (evd_var (C := C) rfl ty)) (evd_int (K := K) (C := C))).to (by rw [lenu]; congr 1; simp; omega))) (fun h => absurd h (by decide)) fun _ => evd_var rfl (tw.exv noL_wordD v e)) fun y H5 e5 t => q y u H5 hu hul (fun F _ _ => rfl) (e.ex e5) t
end
end UW
namespace UW
open PySem PySem.Spec PyProof.Rows L2 Evl StX SlX ClX RZ
section
variable {K : PySem.W.Frag} {C : Addr} {H H' : Hp} {σ : L2.St} {ta tb te ti : TE} {d : Dt} {ds es : List Dt} {D : Ends} {ts : TS} {wi : TI} {g : TG}
/-- a for, told of the heap as the walk begins -/
theorem do_forI (hi : EvI K C wi σ H ds) (k : ∀ H2, Ex H H2 → ∃ Pv : Nat → L2.St → Hp → Prop, Pv 0 σ H2 ∧ (∀ i σ' H', Pv i σ' H' → Ex H2 H') ∧
    (∀ i d x σ' H' H3, ds[i]? = some d → Pv i σ' H' → Ex H' H3 → Tp K C H3 x d → g x σ' H3 fun σ4 H4 => ts { D with nx := Pv (i + 1), ct := Pv (i + 1), bk := D.nx } σ4 H4) ∧
    (∀ σ' H', Pv ds.length σ' H' → D.nx σ' H')) : tFor wi g ts D σ H := by
  refine hi H (Ex.refl _) _ fun J H2 e2 w => ?_
  obtain ⟨Pv, h0, hG, hs, hd⟩ := k H2 e2
  refine for_it (n := ds.length) (G := fun H' => Ex H2 H') (Y := fun i H x H3 => Ex H H3 ∧ ∃ d, ds[i]? = some d ∧ Tp K C H3 x d)
    ⟨fun i H hi e => w.goes i H hi e, fun H e => w.stops H e, fun i H x H3 hi e y => w.yields i H x H3 hi e y⟩ Pv h0 (fun i σ2 H2 _ p => hG i σ2 H2 p)
    (fun i x σ2 H2 H3 _ p ⟨e3, d, hd, td⟩ => hs i d x σ2 H2 H3 hd p e3 td) hd
theorem evn_rep {n : Nat} (h : EvN K C ta σ H [d]) (hb : EvD K C tb σ H (.int (n : Int))) (hn : n ≤ 1000) : EvN K C (tOp rRep ta tb) σ H (List.replicate n d) := fun H1 e Q q =>
  h H1 e _ fun p vs H2 hp e2 hv al => hb H2 (e.trans e2) _ fun y H3 e3 ty => by
    cases ty
    obtain _ | ⟨t0, _ | _⟩ := al
    rename_i v
    refine ⟨p, _, _, rfl, rfl, ex_lst e3 hv, by omega, by omega, ?_, fun l hl => ?_⟩
    · rw [Int.toNat_natCast]; exact sz_of (by simp; omega)
    · rw [Int.toNat_natCast]
      have e' : (List.replicate n [v]).flatten = List.replicate n v := by simp
      rw [e']
      have e4 : Ex H1 (upd H3 l (.lst (List.replicate n v))) := (e2.trans e3).trans (Ex.new hl)
      refine q l _ _ (fresh_back (e2.trans e3) hl) e4 upd_same (TpAll.of (by simp) fun i v' d' h1 h2 => ?_)
      rw [List.getElem?_replicate] at h1 h2
      by_cases hi : i < n
      · rw [if_pos hi] at h1 h2
        cases h1; cases h2; exact (t0.ex e3).ex (Ex.new hl)
      · rw [if_neg hi] at h1
        cases h1
/-! a dict of five bonds, told where it is asked -/
abbrev kT (f : Nat → Gd) (k : Nat) : TE × TE := (tC (.int (k : Int)), tTup (tCons (tC (.int (f k).a)) (tCons (tC (.int (f k).b)) tNil)))
theorem pairs_run {f : Nat → Gd} : ∀ (ks : List Nat) {H1 : Hp} {Q : List (V × V) → Hp → Prop}, (∀ (kvs : List (Key × V)) H2, Ex H1 H2 → kvs.map (·.1) = ks.map (fun (k : Nat) => (Sum.inl (k : Int) : Key)) → TpAll K C H2 (kvs.map (·.2)) (ks.map fun k => gdD (f k)) → Q (kvs.map fun kv => (kV kv.1, kv.2)) H2) → tPairs (ks.map (kT f)) σ H1 Q
  | [], H1, Q, q => q [] H1 (Ex.refl _) rfl .nil
  | k :: ks, H1, Q, q => by
    show tPairs (kT f k :: ks.map (kT f)) σ H1 Q
    exact (evd_tup (K := K) (C := C) (σ := σ) (eds_cons (evd_int (i := (f k).a)) (eds_cons (evd_int (i := (f k).b)) eds_nil)) (by simp)) H1 (Ex.refl _) _ fun v H2 e2 t => pairs_run ks (Q := fun ps H3 => Q ((V.int (k : Int), v) :: ps) H3) fun kvs H3 e3 hk al =>
      q ((Sum.inl (k : Int), v) :: kvs) H3 (e2.trans e3) (by simp [hk]) (.cons (t.ex e3) al)
theorem noLSs_gds {α : Type} {f : α → Gd} (xs : List α) : noLSs (xs.map fun x => gdD (f x)) = true := noLSs_map (fun x => by unfold gdD; simp [noLS, noLSs]) xs
theorem evd_five {f : Nat → Gd} {b : Nat} (hb : isB b) (h : EvD K C ti σ H (.int (b : Int))) : EvD K C (tDGet (tDisp (([0, 3, 4, 5, 6] : List Nat).map (kT f))) ti) σ H (gdD (f b)) := fun H1 e1 Q q => by
  intro p hp
  refine pairs_run (K := K) (C := C) _ fun kvs H2 e2 hk al => ?_
  have h2 : H2 p = some (.dK []) := e2.all _ _ upd_same fun ps z => by cases z
  have hl : kvs.length = 5 := by
    have := congrArg List.length hk
    simpa using this
  refine ⟨h2, kvs, rfl, by omega, ?_⟩
  have nt : ∀ xs, ¬ L2.Rd H2 p (.tup xs) := by
    rintro xs (z | ⟨o, z⟩) <;> (rw [h2] at z; cases z)
  have al3 := TpAll.off (o := .dK (mergeK [] kvs)) nt (noLSs_gds _) al
  have e13 : Ex H1 (upd H2 p (.dK (mergeK [] kvs))) := ((Ex.new hp).trans e2).mut hp
  refine h _ (e1.trans e13) _ fun y H4 e4 ty => ?_
  cases ty
  have h4 : H4 p = some (.dK (mergeK [] kvs)) := e4.all _ _ upd_same fun ps z => by cases z
  obtain _ | ⟨⟨k0, v0⟩, _ | ⟨⟨k3, v3⟩, _ | ⟨⟨k4, v4⟩, _ | ⟨⟨k5, v5⟩, _ | ⟨⟨k6, v6⟩, _ | ⟨kx, _⟩⟩⟩⟩⟩⟩ := kvs <;> first | (simp at hl; done) | skip
  simp only [List.map_cons, List.map_nil, List.cons.injEq, and_true] at hk
  obtain ⟨rfl, rfl, rfl, rfl, rfl⟩ := hk
  simp only [List.map_cons, List.map_nil] at al3
  obtain _ | ⟨t0, _ | ⟨t3, _ | ⟨t4, _ | ⟨t5, _ | ⟨t6, _⟩⟩⟩⟩⟩ := al3
  have e14 := e13.trans e4
  rcases hb with h | h | h | h | h <;> subst h
  · exact ⟨p, v0, rfl, DGet.k (k := .inl 0) h4, q v0 H4 e14 (t0.ex e4)⟩
  · exact ⟨p, v3, rfl, DGet.k (k := .inl 3) h4, q v3 H4 e14 (t3.ex e4)⟩
  · exact ⟨p, v4, rfl, DGet.k (k := .inl 4) h4, q v4 H4 e14 (t4.ex e4)⟩
  · exact ⟨p, v5, rfl, DGet.k (k := .inl 5) h4, q v5 H4 e14 (t5.ex e4)⟩
  · exact ⟨p, v6, rfl, DGet.k (k := .inl 6) h4, q v6 H4 e14 (t6.ex e4)⟩
end
section
variable {P : Program} {w : World} {K : PySem.W.Frag} {mg : Str → Option Value} {base : Heap} {C Pt : Addr}
/-! _law_factors -/
abbrev s__law_factors : Stmt := topS 55
theorem sc__law_factors : FnScope ["_law_letters", "_law_bonds", "_law_found", "_law_one", "_law_other", "_law_bond"] ["_law_letters", "_law_bonds"] (defScope s__law_factors) := ⟨rfl, rfl, rfl, by decide +kernel, rfl, by decide +kernel, by decide +kernel⟩
def sp__law_factors (K : PySem.W.Frag) (C : Addr) : Sp := fun vs H Q _ => ∃ (n : Nat) (bs : List Bo), TpAll K C H vs [.int (n : Int), bondsD bs] ∧ VB n bs ∧ ∀ p as H', H p = none → (∀ a ∈ as, H a = none) → Ex H H' → Mat K C H' p (facs n bs) as → Q (.ref p) H'
theorem ok__law_factors {f : Addr} {fd : FuncData} (F : Fun K "_law_factors" "_law_factors" s__law_factors f fd) (T : Bt mg) : FnOk P w K mg base CX0 1 f fd ["_law_letters", "_law_bonds"] (sp__law_factors K C) := by
  refine F.ok sc__law_factors (fun vs H Q E ⟨n, bs, al, _⟩ => al.length) fun cdv A outer s H vs Q E hr h => ?_
  obtain ⟨n, bs, al, hV, q⟩ := h
  obtain _ | ⟨t0, _ | ⟨t1, _ | _⟩⟩ := al
  rename_i x0 x1
  have nd := sc__law_factors.nd
  refine ⟨_, pss_cons (ps_setLc (i := 2) (own := [("_law_one", 3)]) (g := (gName 3)) (tt := tYes) (te := (tOp rRep (tLst (tCons (tTup (tCons (tC (.int 0)) (tCons (tC (.int 0)) tNil))) tNil)) (tVar 0))) rfl nd rfl rfl (sw_true rfl rfl rfl (by decide +kernel)) (pi_range1 (by rfl) T.range (pa_cons (pv 0) pa_nil)) (blkOk_by (own := [("_law_one", 3)]) (N := ["_law_letters", "_law_bonds", "_law_found", "_law_one", "_law_other", "_law_bond"]) (sc := defScope s__law_factors) (by decide +kernel)) (fun _ _ _ _ _ => (pg_name (i := 3) nd rfl (Or.inl rfl))) (fun _ _ _ _ _ => pts_nil) (fun _ _ _ _ _ => (pe_op op_rep (pe_lst (pa_cons (pe_tup (pa_cons pe_int (pa_cons pe_int pa_nil))) pa_nil)) (pv 0))))
    (pss_cons (ps_for PassesOwn.never rfl (pi_tup (pv 1)) (pg_tup rfl (pgs_cons (pg_name (i := 3) nd rfl (Or.inl rfl)) (pgs_cons (pg_name (i := 4) nd rfl (Or.inl rfl)) (pgs_cons (pg_name (i := 5) nd rfl (Or.inl rfl)) pgs_nil)))) (pss_cons (ps_asg (pe_dget (hu_of hr) (pe_disp (pps_cons pe_int (pe_tup (pa_cons pe_int (pa_cons pe_int pa_nil))) (pps_cons pe_int (pe_tup (pa_cons pe_int (pa_cons pe_int pa_nil))) (pps_cons pe_int (pe_tup (pa_cons pe_int (pa_cons pe_int pa_nil))) (pps_cons pe_int (pe_tup (pa_cons pe_int (pa_cons pe_int pa_nil))) (pps_cons pe_int (pe_tup (pa_cons pe_int (pa_cons pe_int pa_nil))) pps_nil))))) rfl rfl (List.cons_ne_nil _ _) (by decide)) (pv 5) (fun _ _ => rfl)) (pg_sub (pe_ix ix_list (pv 2) (pv 3) (fun _ _ => rfl)) (pv 4) set_list))
    (pss_one (ps_asg (pe_dget (hu_of hr) (pe_disp (pps_cons pe_int (pe_tup (pa_cons pe_int (pa_cons pe_int pa_nil))) (pps_cons pe_int (pe_tup (pa_cons pe_int (pa_cons pe_int pa_nil))) (pps_cons pe_int (pe_tup (pa_cons pe_int (pa_cons pe_int pa_nil))) (pps_cons pe_int (pe_tup (pa_cons pe_int (pa_cons pe_int pa_nil))) (pps_cons pe_int (pe_tup (pa_cons pe_int (pa_cons pe_int pa_nil))) pps_nil))))) rfl rfl (List.cons_ne_nil _ _) (by decide)) (pv 5) (fun _ _ => rfl)) (pg_sub (pe_ix ix_list (pv 2) (pv 4) (fun _ _ => rfl)) (pv 3) set_list)))))
    (pss_one (ps_ret (pv 2)))), ?_⟩
  have hn4 := hV.n4
  refine do_seq (do_setM (K := K) (C := C) (F := zeroF n) (evm_lc (ds := rngD 0 n) (evi_rng1 (eds_cons (evd_var rfl t0) eds_nil) (by omega)).w (by simp [rngD_len, zeroF]) (by rw [rngD_len]; omega) fun k d fs x H1 hd hfs e1 tx => ⟨_, fun Q q => q, rfl, ?_⟩) fun p as H1 hp has e1 m => ?_)
  · have hk : k < n := by
      have := (List.getElem?_eq_some_iff.mp hd).1
      rwa [rngD_len] at this
    have : fs = List.replicate n 0 := by
      unfold zeroF at hfs
      rw [List.getElem?_replicate, if_pos hk] at hfs
      exact (Option.some.inj hfs).symm
    subst this
    refine (evn_rep (d := gdD 0) (n := n) (evn_lst (eds_cons (evd_tup (eds_cons evd_int (eds_cons evd_int eds_nil)) (by simp)) eds_nil) (by simp)) (evd_var rfl (t0.ex e1)) (by omega)).to ?_
    rw [List.map_replicate]
  let Pv : Nat → L2.St → Hp → Prop := fun k σ H' => Ex H H' ∧ Mat K C H' p ((bs.take k).foldl putB (zeroF n)) as ∧ ∃ (o3 o4 o5 : Option V), σ = [some x0, some x1, some (.ref p), o3, o4, o5]
  refine do_seq (do_for (K := K) (C := C) (ds := bs.map bondD) (H' := H) (evib_tup rfl t1) e1 Pv (fun H2 e2 => ⟨e1.trans e2, m.ex e2, none, none, none, rfl⟩) (fun k σ2 H2 z => z.1) ?_ ?_)
  · rintro k d x σ2 H2 H3 hd ⟨e2, m2, o3, o4, o5, rfl⟩ e3 tx
    rw [List.getElem?_map] at hd
    cases hb : bs[k]? with
    | none => rw [hb] at hd; simp at hd
    | some b =>
      rw [hb] at hd
      cases hd
      obtain ⟨b1, b2, b3⟩ := hV.all b (List.mem_of_getElem? hb)
      refine g_three tx fun y1 y2 y3 ty1 ty2 ty3 => ?_
      have q1 := ty1.int'
      have q2 := ty2.int'
      subst q1 q2
      have W0 := wf_fold (n := n) (bs.take k)
      have W1 := wf_set W0 b.1 b.2.1 (pairB b.2.2).1
      refine do_seq ?_
      refine evd_five (f := fun k => (pairB k).1) (C := C) b3 (evd_var rfl ty3) H3 (Ex.refl _) _ fun v H4 e4 tv => ?_
      have m4 := m2.ex (e3.trans e4)
      have e24 := (e2.trans e3).trans e4
      refine g_mat rfl rfl rfl m4 (i := b.1) (j := b.2.1) (by rw [W0.len]; omega) (fun fs hfs => ?_) tv fun a zs ys ha hz m5 => ?_
      · have := W0.rows b.1 (by omega)
        rw [show (List.foldl putB (zeroF n) (List.take k bs)).getD b.1 [] = fs from by simp [hfs]] at this
        omega
      · have e5 : Ex H (upd H4 a (.lst ys)) := e24.mut (has a ha)
        have ty3' := ((ty3.ex e4).upd (p := a) (o := .lst ys) ⟨zs, hz⟩ noL_int)
        refine evd_five (f := fun k => (pairB k).2) (C := C) b3 (evd_var rfl ty3') _ (Ex.refl _) _ fun v' H6 e6 tv' => ?_
        have m6 := m5.ex e6
        refine g_mat rfl rfl rfl m6 (i := b.2.1) (j := b.1) (by rw [W1.len]; omega) (fun fs hfs => ?_) tv' fun a' zs' ys' ha' hz' m7 => ?_
        · have := W1.rows b.2.1 (by omega)
          rw [show (setF (List.foldl putB (zeroF n) (List.take k bs)) b.1 b.2.1 (pairB b.2.2).1).getD b.2.1 [] = fs from by simp [hfs]] at this
          omega
        · refine ⟨(e5.trans e6).mut (has a' ha'), ?_, _, _, _, rfl⟩
          rw [List.take_add_one, hb, Option.toList_some, List.foldl_append]
          exact m7
  · rintro σ2 H2 ⟨e2, m2, o3, o4, o5, rfl⟩
    rw [List.length_map, List.take_length] at m2
    exact ⟨_, rfl, q p as H2 hp has e2 m2⟩
end
end UW
namespace UW
open PySem PySem.Spec PyProof.Rows L2 Evl StX SlX ClX RZ
theorem sumL_snoc (xs : List Gd) (y : Gd) : sumL (xs ++ [y]) = sumL xs + y := by
  induction xs with
  | nil => simp [sumL]; grind
  | cons x xs ih => simp only [sumL, List.cons_append, List.foldr_cons] at *; rw [ih]; grind
theorem enuD_get {α : Type} {f : α → Dt} {xs : List α} {k : Nat} {d : Dt} (h : (enuD (xs.map f))[k]? = some d) : ∃ x, xs[k]? = some x ∧ d = .tup [.int (k : Int), f x] := by
  unfold enuD at h
  rw [List.getElem?_mapIdx, List.getElem?_map] at h
  cases hk : xs[k]? with
  | none => rw [hk] at h; simp at h
  | some x =>
    rw [hk] at h
    simp only [Option.map_some, Option.some.injEq] at h
    exact ⟨x, rfl, h.symm⟩
theorem enuD_len {ds : List Dt} : (enuD ds).length = ds.length := by unfold enuD; simp
@[simp] theorem noL_facLs : True := trivial
section
variable {K : PySem.W.Frag} {C : Addr} {H H' : Hp} {σ : L2.St} {ta tb te ti : TE} {d : Dt} {ds es : List Dt} {D : Ends} {ts : TS} {wi : TI} {g : TG} {tt : TT}
/-- a comprehension that leaves items out -/
theorem evn_lcF {vs : List Nat} (f : Nat → Bool) (e : Nat → Dt) (hi : EvI K C wi σ H ds) (hz : ds.length < 100000) (hn : ∀ k, noL (e k) = true)
    (hs : ∀ (k : Nat) (d : Dt) (x : V) (H1 : Hp), ds[k]? = some d → Ex H H1 → Tp K C H1 x d →
      ∃ σ2, (∀ Q : L2.St → Hp → Prop, Q σ2 H1 → g x (wipe σ vs) H1 Q) ∧ wipe σ2 vs = wipe σ vs ∧ EvT tt σ2 H1 (f k) ∧ EvD K C te σ2 H1 (e k)) :
    EvN K C (tLc wi g tt te vs) σ H (((List.range ds.length).filter f).map e) := by
  intro H1 e1 Q q
  refine hi H1 e1 _ fun J H2 e2 w D hD => ?_
  have nl : ∀ xs : List Nat, noLs (xs.map e) = true := fun xs => noLs_map hn xs
  have W : Walk J ds.length (fun H => Ex H2 H) (fun k H x H' => Ex H H' ∧ ∃ d, ds[k]? = some d ∧ Tp K C H' x d) :=
    ⟨fun k H' hk e => w.goes k H' hk e, fun H' e => w.stops H' e, fun k H' x H'' hk e y => w.yields k H' x H'' hk e y⟩
  refine lc_it W (fun k H' => Ex H2 H' ∧ ∃ vs, k ≤ ds.length ∧ H' D = some (.lst vs) ∧ TpAll K C H' vs (((List.range k).filter f).map e)) ⟨Ex.new hD, [], Nat.zero_le _, upd_same, by simpa using .nil⟩ (fun k H' _ h => h.1) ?_ ?_
  · rintro k x H' H'' hk ⟨e3, acc, _, ha, al⟩ ⟨e4, d, hd, td⟩
    obtain ⟨σ2, hg, hw, et, ev⟩ := hs k d x H'' hd (((e1.trans e2).trans e3).trans e4) td
    refine hg _ ⟨hw, ?_⟩
    refine et H'' (Ex.refl _) _ fun H3 e5 => ?_
    have hf : (List.range (k + 1)).filter f = (List.range k).filter f ++ (if f k = true then [k] else []) := by
      rw [List.range_succ, List.filter_append]
      congr 1
      by_cases h : f k = true <;> simp [h]
    have haD : ∀ H4, Ex H3 H4 → H4 D = some (.lst acc) := fun H4 e6 => ex_lst ((e4.trans e5).trans e6) ha
    have hlen : acc.length ≤ k := by
      rw [al.length, List.length_map]
      exact Nat.le_trans (List.length_filter_le _ _) (by simp)
    by_cases hfk : f k = true
    · rw [hfk]
      rw [if_pos rfl]
      refine ev H3 e5 _ fun v H4 e6 tv => ?_
      refine ⟨acc, haD H4 e6, sz_lt (by omega), ?_, _, by omega, upd_same, ?_⟩
      · exact (((e3.trans e4).trans e5).trans e6).mut hD
      · rw [hf, if_pos hfk, List.map_append]
        have hp4 : ∃ xs, H4 D = some (.lst xs) := ⟨_, haD H4 e6⟩
        exact ((al.ex ((e4.trans e5).trans e6)).upd hp4 (nl _)).app (.cons (tv.upd hp4 (hn k)) .nil)
    · have hff : f k = false := by simpa using hfk
      rw [hff]
      rw [if_neg Bool.false_ne_true]
      refine ⟨(e3.trans e4).trans e5, acc, by omega, haD H3 (Ex.refl _), ?_⟩
      rw [hf, if_neg hfk, List.append_nil]
      exact al.ex (e4.trans e5)
  · rintro H' ⟨e3, vs', _, hv, al⟩
    exact q D vs' H' (fresh_back e2 hD) (e2.trans e3) hv al
end
section
variable {P : Program} {w : World} {K : PySem.W.Frag} {mg : Str → Option Value} {base : Heap} {C Pt : Addr}
theorem facL_row {F : List (List Gd)} {l : Nat} {fs : List Gd} (h : F[l]? = some fs) : (F.map fun r => Dt.lst (r.map gdD))[l]? = some (.lst (fs.map gdD)) := by
  rw [List.getElem?_map, h]; rfl
theorem row_ex {n : Nat} {F : List (List Gd)} (W : WF n F) {l : Nat} (hl : l < n) : ∃ fs, F[l]? = some fs ∧ F.getD l [] = fs ∧ fs.length = n := by
  have hlF : l < F.length := by rw [W.len]; exact hl
  refine ⟨_, List.getElem?_eq_getElem hlF, by simp [hlF], ?_⟩
  have := W.rows l hl
  simpa [hlF] using this
/-! _law_led -/
abbrev s__law_led : Stmt := topS 56
theorem sc__law_led : FnScope ["_law_factors_here", "_law_letter", "_law_row", "_law_found", "_law_at", "_law_factor"] ["_law_factors_here", "_law_letter", "_law_row"] (defScope s__law_led) := ⟨rfl, rfl, rfl, by decide +kernel, rfl, by decide +kernel, by decide +kernel⟩
def R__law_led (ds : List Dt) (d : Dt) : Prop := ∃ (g : Bool) (n : Nat) (F : List (List Gd)) (l : Nat) (r : List Gd), ds = [facL F, .int (l : Int), rowD r] ∧ FacOk g n F ∧ l < n ∧ r.length = n ∧ d = rowD (ledL F l r)
abbrev sp__law_led (K : PySem.W.Frag) (C : Addr) : Sp := spP K C R__law_led
theorem ok__law_led {f : Addr} {fd : FuncData} (F : Fun K "_law_led" "_law_led" s__law_led f fd) (T : Bt mg) (c__law_added : Cl P w K mg base "_law_added" 1 (sp__law_added K C)) (c__law_times : Cl P w K mg base "_law_times" 1 (sp__law_times K C)) : FnOk P w K mg base CX0 2 f fd ["_law_factors_here", "_law_letter", "_law_row"] (sp__law_led K C) := by
  refine F.ok sc__law_led (spP_len (n := 3) fun ds d ⟨g, n, F, l, r, h, _⟩ => by rw [h]; rfl) fun cdv A outer s H vs Q E hr h => ?_
  obtain ⟨ds, d, al, ⟨g, n, FF, l, r, rfl, hF, hl, hrl, rfl⟩, q⟩ := h
  obtain _ | ⟨t0, _ | ⟨t1, _ | ⟨t2, _ | _⟩⟩⟩ := al
  rename_i x0 x1 x2
  have nd := sc__law_led.nd
  refine ⟨_, pss_cons (ps_set (i := 3) nd rfl (Or.inl rfl) (pe_tup (pa_cons (pe_op op_sub pe_int (pe_ix ix_tup (pe_ix ix_tup (pv 2) (pv 1) (fun _ _ => rfl)) pe_int (fun _ _ => rfl))) (pa_cons (pe_op op_sub pe_int (pe_ix ix_tup (pe_ix ix_tup (pv 2) (pv 1) (fun _ _ => rfl)) pe_int (fun _ _ => rfl))) pa_nil))))
    (pss_cons (ps_for PassesOwn.never rfl (pi_enum (by rfl) T.enumerate (pa_cons (pe_ix ix_list (pv 0) (pv 1) (fun _ _ => rfl)) pa_nil)) (pg_tup rfl (pgs_cons (pg_name (i := 4) nd rfl (Or.inl rfl)) (pgs_cons (pg_name (i := 5) nd rfl (Or.inl rfl)) pgs_nil))) (pss_one (ps_set (i := 3) nd rfl (Or.inl rfl) (pe_cl c__law_added (hr.mono (by decide)) rfl (pa_cons (pv 3) (pa_cons (pe_cl c__law_times (hr.mono (by decide)) rfl (pa_cons (pv 5) (pa_cons (pe_ix ix_tup (pv 2) (pv 4) (fun _ _ => rfl)) pa_nil))) pa_nil))))))
    (pss_one (ps_ret (pe_op op_catA (pe_op op_catA (pe_slice sl_tupA (pv 2) po_none (po_some (pv 1))) (pe_tup (pa_cons (pv 3) pa_nil))) (pe_slice sl_tupA (pv 2) (po_some (pe_op op_add (pv 1) pe_int)) po_none))))), ?_⟩
  have hn4 := hF.n4
  obtain ⟨fs, hfs, hfD, hfl⟩ := row_ex hF.wf hl
  have hlr : l < r.length := by omega
  obtain ⟨xl, hxl⟩ : ∃ x, r[l]? = some x := ⟨_, List.getElem?_eq_getElem hlr⟩
  have hxD : r.getD l 0 = xl := by simp [hxl]
  have rg : (r.map gdD)[l]? = some (gdD xl) := by rw [List.getElem?_map, hxl]; rfl
  have hlo : ∀ (k : Nat) (f : Gd), fs[k]? = some f → Lo f := fun k f h => hF.lo fs (List.mem_of_getElem? hfs) f (List.mem_of_getElem? h)
  refine do_seq (do_set (K := K) (C := C) (d := gdD (-xl)) ((evd_tup (eds_cons (evd_sub evd_int (evd_ixT (n := 0) (evd_ixT (n := l) (evd_var rfl t2) (evd_var rfl t1) rfl rg) evd_int rfl rfl)) (eds_cons (evd_sub evd_int (evd_ixT (n := 1) (evd_ixT (n := l) (evd_var rfl t2) (evd_var rfl t1) rfl rg) evd_int rfl rfl)) eds_nil)) (by simp)).to (by
    unfold gdD
    rw [Gd.neg_a, Gd.neg_b, Int.zero_sub, Int.zero_sub])) fun x3 H1 e1 t3 => ?_)
  let zs := List.zipWith (fun x y => x * y) fs r
  have hzl : zs.length = n := by show (List.zipWith (fun x y => x * y) fs r).length = n; simp; omega
  refine do_seq (do_forI (K := K) (C := C) (ds := enuD (fs.map gdD)) (evi_enuL (eds_cons (evd_ixL (n := l) (evd_var rfl (t0.ex e1)) (evd_var rfl (t1.ex e1)) rfl (facL_row hfs)) eds_nil)) fun H2 e2 => ?_)
  refine ⟨fun k σ H' => Ex H2 H' ∧ ∃ (x3 : V) (o4 o5 : Option V), σ = [some x0, some x1, some x2, some x3, o4, o5] ∧ Tp K C H' x3 (gdD (-xl + sumL (zs.take k))), ⟨Ex.refl _, x3, none, none, rfl, ?_⟩, fun k σ2 H2 z => z.1, ?_, ?_⟩
  · have : -xl + sumL (zs.take 0) = -xl := by simp [sumL]; grind
    rw [this]
    exact t3.ex e2
  · rintro k d x σ2 H3 H4 hd ⟨e3, y3, o4, o5, rfl, ty3⟩ e4 tx
    obtain ⟨f, hf, rfl⟩ := enuD_get hd
    have hk : k < n := by
      have := (List.getElem?_eq_some_iff.mp hf).1
      omega
    obtain ⟨x, hx⟩ : ∃ x, r[k]? = some x := ⟨r[k]'(by omega), List.getElem?_eq_getElem _⟩
    refine g_two tx fun v1 v2 tv1 tv2 => ?_
    have e14 := ((e1.trans e2).trans e3).trans e4
    refine do_set (K := K) (C := C) (evd_call (eds_cons (evd_var rfl (ty3.ex e4)) (eds_cons (evd_call (eds_cons (evd_var rfl tv2) (eds_cons (evd_ixT (n := k) (evd_var rfl (t2.ex e14)) (evd_var rfl tv1) rfl (by rw [List.getElem?_map, hx]; rfl)) eds_nil)) ⟨f, x, rfl, hlo k f hf, rfl⟩) eds_nil)) ⟨_, f * x, rfl, rfl⟩) fun y H5 e5 ty => ?_
    refine ⟨(e3.trans e4).trans e5, y, _, _, rfl, ?_⟩
    have hz : zs[k]? = some (f * x) := by
      show (List.zipWith (fun x y => x * y) fs r)[k]? = _
      rw [List.getElem?_zipWith, hf, hx]
    have : -xl + sumL (zs.take (k + 1)) = -xl + sumL (zs.take k) + f * x := by
      rw [List.take_add_one, hz, Option.toList_some, sumL_snoc]; grind
    rw [this]
    exact ty
  · rintro σ2 H3 ⟨e3, y3, o4, o5, rfl, ty3⟩
    rw [enuD_len, List.length_map, hfl, ← hzl, List.take_length] at ty3
    have e13 := (e1.trans e2).trans e3
    have u1 := t1.ex e13
    have u2 := t2.ex e13
    refine do_ret (K := K) (C := C) (d := rowD (ledL FF l r)) ((evd_cat (evd_cat (evd_sl (evd_var rfl u2) evp_none (evp_some (evd_var rfl u1))) (evd_tup (eds_cons (evd_var rfl ty3) eds_nil) (by simp)) (by rw [cutD_take]; simp; omega)) (evd_sl (evd_var rfl u2) (evp_some ((evd_add (evd_var rfl u1) evd_int).to (dx := .int ((l + 1 : Nat) : Int)) (by congr 1))) evp_none) (by rw [cutD_take, cutD_drop]; simp; omega)).to ?_) fun v H5 e5 t => q v H5 (e13.trans e5) t
    rw [cutD_take, cutD_drop]
    unfold rowD ledL
    rw [hfD, hxD, set_cut _ _ _ hlr, List.map_append, List.map_cons, List.map_take, List.map_drop]
    congr 1
    rw [List.append_assoc]
    rfl
/-! _law_first -/
abbrev s__law_first : Stmt := topS 57
theorem sc__law_first : FnScope ["_law_factors_here", "_law_at", "_law_to"] ["_law_factors_here"] (defScope s__law_first) := ⟨rfl, rfl, rfl, by decide +kernel, rfl, by decide +kernel, by decide +kernel⟩
def R__law_first (ds : List Dt) (d : Dt) : Prop := ∃ (g : Bool) (n : Nat) (F : List (List Gd)), ds = [facL F] ∧ FacOk g n F ∧ d = stD (firstL n)
abbrev sp__law_first (K : PySem.W.Frag) (C : Addr) : Sp := spP K C R__law_first
theorem ok__law_first {f : Addr} {fd : FuncData} (F : Fun K "_law_first" "_law_first" s__law_first f fd) (T : Bt mg) : FnOk P w K mg base CX0 1 f fd ["_law_factors_here"] (sp__law_first K C) := by
  refine F.ok sc__law_first (spP_len (n := 1) fun ds d ⟨g, n, F, h, _⟩ => by rw [h]; rfl) fun cdv A outer s H vs Q E hr h => ?_
  obtain ⟨ds, d, al, ⟨g, n, FF, rfl, hF, rfl⟩, q⟩ := h
  obtain _ | ⟨t0, _ | _⟩ := al
  rename_i x0
  have nd := sc__law_first.nd
  refine ⟨_, pss_one (ps_ret (pe_callTy call_tuple_of (by rfl) T.tuple (by decide +kernel) (pa_cons (pe_lc (own := [("_law_at", 1)]) (g := (gName 1)) (tt := tYes) (te := (tCB (rTupOf K) (tCons (tLc (iRng1 (tCons (tCB (rLenS K) (tCons (tVar 0) tNil)) tNil)) (gName 2) tYes (tTup (tCons (tCB rInt1 (tCons (tOp rEq (tVar 1) (tVar 2)) tNil)) (tCons (tC (.int 0)) tNil))) [2]) tNil))) rfl nd (pi_range1 (by rfl) T.range (pa_cons (pe_callB call_len_seq (by rfl) T.len PySem.boot_len (pa_cons (pv 0) pa_nil)) pa_nil)) (blkOk_by (own := [("_law_at", 1)]) (N := ["_law_factors_here", "_law_at", "_law_to"]) (sc := defScope s__law_first) (by decide +kernel)) (fun _ _ _ _ _ => (pg_name (i := 1) nd rfl (Or.inr rfl))) (fun _ _ _ _ _ => pts_nil) (fun _ _ _ _ _ => (pe_callTy call_tuple_of (by rfl) T.tuple (by decide +kernel) (pa_cons (pe_lc (own := [("_law_to", 2)]) (g := (gName 2)) (tt := tYes) (te := (tTup (tCons (tCB rInt1 (tCons (tOp rEq (tVar 1) (tVar 2)) tNil)) (tCons (tC (.int 0)) tNil)))) rfl nd (pi_range1 (by rfl) T.range (pa_cons (pe_callB call_len_seq (by rfl) T.len PySem.boot_len (pa_cons (pv 0) pa_nil)) pa_nil)) (blkOk_by (own := [("_law_to", 2)]) (N := ["_law_factors_here", "_law_at", "_law_to"]) (sc := relS (scopeAt s__law_first 0) (defScope s__law_first)) (by decide +kernel)) (fun _ _ _ _ _ => (pg_name (i := 2) nd rfl (Or.inl rfl))) (fun _ _ _ _ _ => pts_nil) (fun _ _ _ _ _ => (pe_tup (pa_cons (pe_callTy call_int1 (by rfl) T.int (by decide +kernel) (pa_cons (pe_cmpR op_eq (pv 1) (pv 2) (nomark _)) pa_nil)) (pa_cons pe_int pa_nil))))) pa_nil)))) pa_nil))), ?_⟩
  have hn4 := hF.n4
  have len : ∀ (σ : L2.St) (H' : Hp), Ex H H' → σ[0]? = some (some x0) → EvDs K C (tCons (tCB (rLenS K) (tCons (tVar 0) tNil)) tNil) σ H' [.int (n : Int)] := fun σ H' e h => eds_cons ((evd_lenL (evd_var h (t0.ex e))).to (by rw [List.length_map, hF.wf.len])) eds_nil
  refine do_ret (K := K) (C := C) (d := stD (firstL n)) (evd_tuple (evn_lc1 (ds := rngD 0 n) (evi_rng1 (len _ _ (Ex.refl _) rfl) (by omega)).w (by unfold firstL; simp [rngD_len]) (by rw [rngD_len]; omega) (noLs_map (fun _ => noL_rowD) _) (fun _ => rfl) ?_)) q
  intro k d e x H4 hd he e4 tx
  have hk : k < n := by
    have := (List.getElem?_eq_some_iff.mp hd).1
    rwa [rngD_len] at this
  rw [rngD_get hk, Int.zero_add] at hd
  cases hd
  unfold firstL at he
  rw [List.map_map, List.getElem?_map, List.getElem?_range hk] at he
  cases he
  refine evd_tuple (evn_lc1 (ds := rngD 0 n) (evi_rng1 (len _ _ e4 rfl) (by omega)).w (by simp [rngD_len]) (by rw [rngD_len]; omega) (noLs_map (fun _ => noL_gdD) _) (fun _ => rfl) ?_)
  intro j d e y H5 hd he e5 ty
  have hj : j < n := by
    have := (List.getElem?_eq_some_iff.mp hd).1
    rwa [rngD_len] at this
  rw [rngD_get hj, Int.zero_add] at hd
  cases hd
  rw [List.map_map, List.getElem?_map, List.getElem?_range hj] at he
  cases he
  refine (evd_tup (eds_cons (evd_int1b (evd_eqI (evd_var rfl (tx.ex e5)) (evd_var rfl ty))) (eds_cons evd_int eds_nil)) (by simp)).to ?_
  show Dt.tup _ = gdD (if j = k then (1 : Gd) else 0)
  by_cases h : j = k
  · subst h; simp; rfl
  · have h' : ¬ (k : Int) = (j : Int) := by omega
    simp [h, h']; rfl
/-! _law_behind -/
abbrev s__law_behind : Stmt := topS 58
theorem sc__law_behind : FnScope ["_law_factors_here", "_law_state_here", "_law_letter", "_law_row"] ["_law_factors_here", "_law_state_here", "_law_letter"] (defScope s__law_behind) := ⟨rfl, rfl, rfl, by decide +kernel, rfl, by decide +kernel, by decide +kernel⟩
def R__law_behind (ds : List Dt) (d : Dt) : Prop := ∃ (g : Bool) (n : Nat) (F st : List (List Gd)) (l : Nat), ds = [facL F, stD st, .int (l : Int)] ∧ FacOk g n F ∧ FrOk g n st ∧ l < n ∧ d = stD (behindL F l st)
abbrev sp__law_behind (K : PySem.W.Frag) (C : Addr) : Sp := spP K C R__law_behind
theorem ok__law_behind {f : Addr} {fd : FuncData} (F : Fun K "_law_behind" "_law_behind" s__law_behind f fd) (T : Bt mg) (c__law_led : Cl P w K mg base "_law_led" 2 (sp__law_led K C)) : FnOk P w K mg base CX0 3 f fd ["_law_factors_here", "_law_state_here", "_law_letter"] (sp__law_behind K C) := by
  refine F.ok sc__law_behind (spP_len (n := 3) fun ds d ⟨g, n, F, st, l, h, _⟩ => by rw [h]; rfl) fun cdv A outer s H vs Q E hr h => ?_
  obtain ⟨ds, d, al, ⟨g, n, FF, st, l, rfl, hF, hst, hl, rfl⟩, q⟩ := h
  obtain _ | ⟨t0, _ | ⟨t1, _ | ⟨t2, _ | _⟩⟩⟩ := al
  have nd := sc__law_behind.nd
  refine ⟨_, pss_one (ps_ret (pe_callTy call_tuple_of (by rfl) T.tuple (by decide +kernel) (pa_cons (pe_lc (own := [("_law_row", 3)]) (g := (gName 3)) (tt := tYes) (te := (tCall (sp__law_led K C) [] E0 (tCons (tVar 0) (tCons (tVar 2) (tCons (tVar 3) tNil))))) rfl nd (pi_tup (pv 1)) (blkOk_by (own := [("_law_row", 3)]) (N := ["_law_factors_here", "_law_state_here", "_law_letter", "_law_row"]) (sc := defScope s__law_behind) (by decide +kernel)) (fun _ _ _ _ _ => (pg_name (i := 3) nd rfl (Or.inl rfl))) (fun _ _ _ _ _ => pts_nil) (fun _ _ _ _ _ => (pe_cl c__law_led (hr.mono (by decide)) rfl (pa_cons (pv 0) (pa_cons (pv 2) (pa_cons (pv 3) pa_nil)))))) pa_nil))), ?_⟩
  have hn4 := hF.n4
  refine do_ret (K := K) (C := C) (d := stD (behindL FF l st)) (evd_tuple (evn_lc1 (ds := st.map rowD) (evi_tup (evd_var rfl t1)) (by unfold behindL; simp) (by simp [hst.1]; omega) (noLs_map (fun _ => noL_rowD) _) (fun _ => rfl) ?_)) q
  intro k d e x H4 hd he e4 tx
  unfold behindL at he
  rw [List.map_map, List.getElem?_map] at he
  rw [List.getElem?_map] at hd
  cases h1 : st[k]? with
  | none => rw [h1] at he; simp at he
  | some r =>
    rw [h1] at he hd
    cases hd
    cases he
    exact evd_call (eds_cons (evd_var rfl (t0.ex e4)) (eds_cons (evd_var rfl (t2.ex e4)) (eds_cons (evd_var rfl tx) eds_nil))) ⟨g, n, FF, l, r, rfl, hF, hl, (hst.2 r (List.mem_of_getElem? h1)).1, rfl⟩
/-! _law_state -/
abbrev s__law_state : Stmt := topS 60
theorem sc__law_state : FnScope ["_law_factors_here", "_law_word_here", "_law_found", "_law_letter"] ["_law_factors_here", "_law_word_here"] (defScope s__law_state) := ⟨rfl, rfl, rfl, by decide +kernel, rfl, by decide +kernel, by decide +kernel⟩
def R__law_state (ds : List Dt) (d : Dt) : Prop := ∃ (g : Bool) (n : Nat) (F : List (List Gd)) (u : List Nat), ds = [facL F, wordD u] ∧ FacOk g n F ∧ ok n u ∧ u.length ≤ 1000 ∧ d = stD (stateL n F u)
abbrev sp__law_state (K : PySem.W.Frag) (C : Addr) : Sp := spP K C R__law_state
theorem ok__law_state {f : Addr} {fd : FuncData} (F : Fun K "_law_state" "_law_state" s__law_state f fd) (T : Bt mg) (c__law_first : Cl P w K mg base "_law_first" 1 (sp__law_first K C)) (c__law_behind : Cl P w K mg base "_law_behind" 3 (sp__law_behind K C)) : FnOk P w K mg base CX0 4 f fd ["_law_factors_here", "_law_word_here"] (sp__law_state K C) := by
  refine F.ok sc__law_state (spP_len (n := 2) fun ds d ⟨g, n, F, u, h, _⟩ => by rw [h]; rfl) fun cdv A outer s H vs Q E hr h => ?_
  obtain ⟨ds, d, al, ⟨g, n, FF, u, rfl, hF, hu, hul, rfl⟩, q⟩ := h
  obtain _ | ⟨t0, _ | ⟨t1, _ | _⟩⟩ := al
  rename_i x0 x1
  have nd := sc__law_state.nd
  refine ⟨_, pss_cons (ps_set (i := 2) nd rfl (Or.inl rfl) (pe_cl c__law_first (hr.mono (by decide)) rfl (pa_cons (pv 0) pa_nil)))
    (pss_cons (ps_for PassesOwn.never rfl (pi_tup (pv 1)) (pg_name (i := 3) nd rfl (Or.inl rfl)) (pss_one (ps_set (i := 2) nd rfl (Or.inl rfl) (pe_cl c__law_behind (hr.mono (by decide)) rfl (pa_cons (pv 0) (pa_cons (pv 2) (pa_cons (pv 3) pa_nil)))))))
    (pss_one (ps_ret (pv 2)))), ?_⟩
  refine do_seq (do_set (K := K) (C := C) (evd_call (eds_cons (evd_var rfl t0) eds_nil) ⟨g, n, FF, rfl, hF, rfl⟩) fun x2 H1 e1 t2 => ?_)
  let Pv : Nat → L2.St → Hp → Prop := fun k σ H' => Ex H1 H' ∧ ∃ (x2 : V) (x3 : Option V), σ = [some x0, some x1, some x2, x3] ∧ Tp K C H' x2 (stD (stateL n FF (u.take k)))
  refine do_seq (do_for (K := K) (C := C) (ds := u.map fun (a : Nat) => Dt.int (a : Int)) (evib_tup rfl (t1.ex e1)) (Ex.refl _) Pv (fun H2 e2 => ⟨e2, x2, none, rfl, t2.ex e2⟩) (fun k σ2 H2 p => p.1) ?_ ?_)
  · rintro k d x σ2 H2 H3 hd ⟨e2, x2', x3, rfl, t2'⟩ e3 tx
    rw [List.getElem?_map] at hd
    cases h1 : u[k]? with
    | none => rw [h1] at hd; simp at hd
    | some l =>
      rw [h1] at hd
      cases hd
      have hl : l < n := hu l (List.mem_of_getElem? h1)
      refine do_set (K := K) (C := C) (evd_call (eds_cons (evd_var rfl (((t0.ex e1).ex e2).ex e3)) (eds_cons (evd_var rfl (t2'.ex e3)) (eds_cons (evd_var rfl tx) eds_nil))) ⟨g, n, FF, _, l, rfl, hF, stateL_ok hF (fun a ha => hu a (List.mem_of_mem_take ha)), hl, rfl⟩) fun x2'' H4 e4 t4 => ?_
      refine ⟨(e2.trans e3).trans e4, x2'', some x, rfl, ?_⟩
      rw [List.take_add_one, h1]
      unfold stateL at *
      simpa using t4
  · rintro σ2 H2 ⟨e2, x2', x3, rfl, t2'⟩
    rw [List.length_map, List.take_length] at t2'
    exact do_ret (K := K) (C := C) (evd_var rfl t2') fun v H3 e3 t => q v H3 ((e1.trans e2).trans e3) t
end
end UW
namespace UW
open PySem PySem.Spec PyProof.Rows L2 Evl StX SlX ClX RZ
abbrev intsD (u : List Nat) : List Dt := u.map fun (a : Nat) => Dt.int (a : Int)
theorem noLs_intsD (u : List Nat) : noLs (intsD u) = true := noLs_map (fun _ => noL_int) u
theorem par2 {i j : Nat} {t1 t2 : TE} {D : Ends} {σ : L2.St} {H : Hp} (h : t1 σ H fun x H1 => t2 σ H1 fun y H2 => ∃ v w, [x, y] = [v, w] ∧ D.nx ((σ.set i (some v)).set j (some w)) H2) : tPar i j (tCons t1 (tCons t2 tNil)) D σ H := h
theorem flat_ints (u : List Nat) : flatD 1 (.lst (intsD u)) = true := by simp [flatD, intsD]
section
variable {P : Program} {w : World} {K : PySem.W.Frag} {mg : Str → Option Value} {base : Heap} {C Pt : Addr}
/-! _law_lefts -/
abbrev s__law_lefts : Stmt := topS 61
theorem sc__law_lefts : FnScope ["_law_state_here", "_law_letter", "_law_row"] ["_law_state_here"] (defScope s__law_lefts) := ⟨rfl, rfl, rfl, by decide +kernel, rfl, by decide +kernel, by decide +kernel⟩
def R__law_lefts (ds es : List Dt) : Prop := ∃ st : List (List Gd), ds = [stD st] ∧ (∀ r ∈ st, smallR r ∧ r.length ≤ 1000) ∧ st.length ≤ 1000 ∧ es = intsD (leftsL st)
abbrev sp__law_lefts (K : PySem.W.Frag) (C : Addr) : Sp := spN K C R__law_lefts
theorem ok__law_lefts {f : Addr} {fd : FuncData} (F : Fun K "_law_lefts" "_law_lefts" s__law_lefts f fd) (T : Bt mg) (c__law_is_low : Cl P w K mg base "_law_is_low" 1 (sp__law_is_low K C)) : FnOk P w K mg base CX0 2 f fd ["_law_state_here"] (sp__law_lefts K C) := by
  refine F.ok sc__law_lefts (spN_len (n := 1) fun ds d ⟨st, h, _⟩ => by rw [h]; rfl) fun cdv A outer s H vs Q E hr h => ?_
  obtain ⟨ds, es, al, ⟨st, rfl, hst, hsl, rfl⟩, q⟩ := h
  obtain _ | ⟨t0, _ | _⟩ := al
  have nd := sc__law_lefts.nd
  refine ⟨_, pss_one (ps_ret (pe_lc (own := [("_law_letter", 1), ("_law_row", 2)]) (g := (gTup K 2 (gCons (gName 1) (gCons (gName 2) gNil)))) (tt := (tB (tCall (sp__law_is_low K C) [] E0 (tCons (tVar 2) tNil)))) (te := (tVar 1)) rfl nd (pi_enumT (by rfl) T.enumerate (pa_cons (pv 0) pa_nil)) (blkOk_by (own := [("_law_letter", 1), ("_law_row", 2)]) (N := ["_law_state_here", "_law_letter", "_law_row"]) (sc := defScope s__law_lefts) (by decide +kernel)) (fun _ _ _ _ _ => (pg_tup rfl (pgs_cons (pg_name (i := 1) nd rfl (Or.inl rfl)) (pgs_cons (pg_name (i := 2) nd rfl (Or.inl rfl)) pgs_nil)))) (fun _ _ _ _ _ => (pts_one (pt_val (pe_cl c__law_is_low (hr.mono (by decide)) rfl (pa_cons (pv 2) pa_nil))))) (fun _ _ _ _ _ => (pv 1)))), ?_⟩
  refine do_retN (K := K) (C := C) ((evn_lcF (ds := enuD (st.map rowD)) (fun k => lowRow (st.getD k [])) (fun (k : Nat) => Dt.int (k : Int)) (evi_enuT (eds_cons (evd_var rfl t0) eds_nil)) (by rw [enuD_len, List.length_map]; omega) (fun _ => noL_int) fun k d x H1 hd e1 tx => ?_).to ?_) q
  · obtain ⟨r, hr', rfl⟩ := enuD_get hd
    obtain ⟨a, xs, rfl, hs, al⟩ := tx.tup'
    obtain _ | ⟨u1, _ | ⟨u2, _ | _⟩⟩ := al
    have hm := List.mem_of_getElem? hr'
    have hD : st.getD k [] = r := by simp [hr']
    refine ⟨_, fun Q q => ⟨a, _, rfl, hs, rfl, _, _, rfl, _, _, rfl, rfl, q⟩, rfl, ?_, evd_var rfl u1⟩
    exact evt_B (evd_call (eds_cons (evd_var rfl u2) eds_nil) ⟨r, rfl, (hst r hm).1, (hst r hm).2, by rw [hD]⟩)
  · rw [enuD_len, List.length_map]
    rfl
/-! _law_ahead -/
abbrev s__law_ahead : Stmt := topS 59
theorem sc__law_ahead : FnScope ["_law_factors_here", "_law_state_here", "_law_letter", "_law_found", "_law_at", "_law_row", "_law_factor", "_law_whole", "_law_part", "_law_one", "_law_two"] ["_law_factors_here", "_law_state_here", "_law_letter"] (defScope s__law_ahead) := ⟨rfl, rfl, rfl, by decide +kernel, rfl, by decide +kernel, by decide +kernel⟩
def R__law_ahead (ds : List Dt) (d : Dt) : Prop := ∃ (g : Bool) (n : Nat) (F st : List (List Gd)) (l : Nat), ds = [facL F, stD st, .int (l : Int)] ∧ FacOk g n F ∧ FrOk g n st ∧ l < n ∧ d = stD (aheadL F l st)
abbrev sp__law_ahead (K : PySem.W.Frag) (C : Addr) : Sp := spP K C R__law_ahead
theorem ok__law_ahead {f : Addr} {fd : FuncData} (F : Fun K "_law_ahead" "_law_ahead" s__law_ahead f fd) (T : Bt mg) (c__law_added : Cl P w K mg base "_law_added" 1 (sp__law_added K C)) (c__law_times : Cl P w K mg base "_law_times" 1 (sp__law_times K C)) : FnOk P w K mg base CX0 2 f fd ["_law_factors_here", "_law_state_here", "_law_letter"] (sp__law_ahead K C) := by
  refine F.ok sc__law_ahead (spP_len (n := 3) fun ds d ⟨g, n, F, st, l, h, _⟩ => by rw [h]; rfl) fun cdv A outer s H vs Q E hr h => ?_
  obtain ⟨ds, d, al, ⟨g, n, FF, st, l, rfl, hF, hst, hl, rfl⟩, q⟩ := h
  obtain _ | ⟨t0, _ | ⟨t1, _ | ⟨t2, _ | _⟩⟩⟩ := al
  rename_i x0 x1 x2
  have nd := sc__law_ahead.nd
  refine ⟨_, pss_cons (ps_set (i := 3) nd rfl (Or.inl rfl) (pe_lst pa_nil))
    (pss_cons (ps_for PassesOwn.never rfl (pi_enumT (by rfl) T.enumerate (pa_cons (pv 1) pa_nil)) (pg_tup rfl (pgs_cons (pg_name (i := 4) nd rfl (Or.inl rfl)) (pgs_cons (pg_name (i := 5) nd rfl (Or.inl rfl)) pgs_nil))) (pss_cons (ps_set (i := 6) nd rfl (Or.inr rfl) (pe_ix ix_list (pe_ix ix_list (pv 0) (pv 2) (fun _ _ => rfl)) (pv 4) (fun _ _ => rfl)))
    (pss_one (ps_if (pt_cmpR op_eq (pv 4) (pv 2) (nomark _)) (pss_one (ps_expr (pe_bm PySem.F.plainAttrs_list PySem.F.slot_list_append PySem.F.type_list_append mt_append (pv 3) (pa_cons (pe_callTy call_tuple_of (by rfl) T.tuple (by decide +kernel) (pa_cons (pe_lc (own := [("_law_whole", 7), ("_law_part", 8)]) (g := (gTup K 2 (gCons (gName 7) (gCons (gName 8) gNil)))) (tt := tYes) (te := (tTup (tCons (tOp (rI0 fun i j => .int (i - j)) (tC (.int 0)) (tVar 7)) (tCons (tOp (rI0 fun i j => .int (i - j)) (tC (.int 0)) (tVar 8)) tNil)))) rfl nd (pi_tup (pv 5)) (blkOk_by (own := [("_law_whole", 7), ("_law_part", 8)]) (N := ["_law_factors_here", "_law_state_here", "_law_letter", "_law_found", "_law_at", "_law_row", "_law_factor", "_law_whole", "_law_part", "_law_one", "_law_two"]) (sc := defScope s__law_ahead) (by decide +kernel)) (fun _ _ _ _ _ => (pg_tup rfl (pgs_cons (pg_name (i := 7) nd rfl (Or.inl rfl)) (pgs_cons (pg_name (i := 8) nd rfl (Or.inl rfl)) pgs_nil)))) (fun _ _ _ _ _ => pts_nil) (fun _ _ _ _ _ => (pe_tup (pa_cons (pe_op op_sub pe_int (pv 7)) (pa_cons (pe_op op_sub pe_int (pv 8)) pa_nil))))) pa_nil)) pa_nil)))) (pss_one (ps_expr (pe_bm PySem.F.plainAttrs_list PySem.F.slot_list_append PySem.F.type_list_append mt_append (pv 3) (pa_cons (pe_callTy call_tuple_of (by rfl) T.tuple (by decide +kernel) (pa_cons (pe_lc (own := [("_law_one", 9), ("_law_two", 10)]) (g := (gTup K 2 (gCons (gName 9) (gCons (gName 10) gNil)))) (tt := tYes) (te := (tCall (sp__law_added K C) [] E0 (tCons (tVar 9) (tCons (tCall (sp__law_times K C) [] E0 (tCons (tVar 6) (tCons (tVar 10) tNil))) tNil)))) rfl nd (pi_zipA (by rfl) T.zip (pa_cons (pv 5) (pa_cons (pe_ix ix_tup (pv 1) (pv 2) (fun _ _ => rfl)) pa_nil))) (blkOk_by (own := [("_law_one", 9), ("_law_two", 10)]) (N := ["_law_factors_here", "_law_state_here", "_law_letter", "_law_found", "_law_at", "_law_row", "_law_factor", "_law_whole", "_law_part", "_law_one", "_law_two"]) (sc := defScope s__law_ahead) (by decide +kernel)) (fun _ _ _ _ _ => (pg_tup rfl (pgs_cons (pg_name (i := 9) nd rfl (Or.inl rfl)) (pgs_cons (pg_name (i := 10) nd rfl (Or.inl rfl)) pgs_nil)))) (fun _ _ _ _ _ => pts_nil) (fun _ _ _ _ _ => (pe_cl c__law_added (hr.mono (by decide)) rfl (pa_cons (pv 9) (pa_cons (pe_cl c__law_times (hr.mono (by decide)) rfl (pa_cons (pv 6) (pa_cons (pv 10) pa_nil))) pa_nil))))) pa_nil)) pa_nil))))))))
    (pss_one (ps_ret (pe_callTy call_tuple_of (by rfl) T.tuple (by decide +kernel) (pa_cons (pv 3) pa_nil))))), ?_⟩
  have hn4 := hF.n4
  obtain ⟨fs, hfs, hfD, hfl⟩ := row_ex hF.wf hl
  have hls : l < st.length := by rw [hst.1]; exact hl
  obtain ⟨head, hh⟩ : ∃ r, st[l]? = some r := ⟨_, List.getElem?_eq_getElem hls⟩
  have hhD : st.getD l [] = head := by simp [hh]
  have hhl : head.length = n := (hst.2 head (List.mem_of_getElem? hh)).1
  have hal : (aheadL FF l st).length = st.length := by unfold aheadL; simp
  refine do_seq (do_setN (K := K) (C := C) (evn_lst eds_nil (by simp)) fun p xs H1 hp e1 hx al => ?_)
  cases al
  let Pv : Nat → L2.St → Hp → Prop := fun k σ H' => Ex H H' ∧ k ≤ st.length ∧ ∃ (xs : List V) (o4 o5 o6 o7 o8 o9 o10 : Option V), σ = [some x0, some x1, some x2, some (.ref p), o4, o5, o6, o7, o8, o9, o10] ∧ H' p = some (.lst xs) ∧ TpAll K C H' xs (((aheadL FF l st).take k).map rowD)
  refine do_seq (do_for (K := K) (C := C) (ds := enuD (st.map rowD)) (H' := H) (evib_enuT rfl t1) e1 Pv (fun H2 e2 => ⟨e1.trans e2, Nat.zero_le _, [], none, none, none, none, none, none, none, rfl, ex_lst e2 hx, by simpa using .nil⟩) (fun k σ2 H2 z => z.1) ?_ ?_)
  · rintro k d x σ2 H2 H3 hd ⟨e2, _, xs, o4, o5, o6, o7, o8, o9, o10, rfl, hpx, al⟩ e3 tx
    obtain ⟨row, hrow, rfl⟩ := enuD_get hd
    have hk : k < n := by
      have := (List.getElem?_eq_some_iff.mp hrow).1
      rw [hst.1] at this; exact this
    have hkl : k < st.length := by rw [hst.1]; exact hk
    have hrl : row.length = n := (hst.2 row (List.mem_of_getElem? hrow)).1
    obtain ⟨f, hf⟩ : ∃ f, fs[k]? = some f := ⟨fs[k]'(by omega), List.getElem?_eq_getElem _⟩
    have hfac : fac FF l k = f := by
      unfold fac
      rw [hfD]; simp [hf]
    have hlo : Lo f := hF.lo fs (List.mem_of_getElem? hfs) f (List.mem_of_getElem? hf)
    have hnew : (aheadL FF l st)[k]? = some (if k = l then row.map (fun x => -x) else List.zipWith (fun x y => x + f * y) row head) := by
      unfold aheadL
      rw [List.getElem?_mapIdx, hrow, Option.map_some, hfac, hhD]
    have htk : (aheadL FF l st).take (k + 1) = (aheadL FF l st).take k ++ [if k = l then row.map (fun x => -x) else List.zipWith (fun x y => x + f * y) row head] := by
      rw [List.take_add_one, hnew, Option.toList_some]
    refine g_two tx fun v1 v2 tv1 tv2 => ?_
    have e03 := e2.trans e3
    refine do_seq (do_set (K := K) (C := C) (evd_ixL (n := k) (evd_ixL (n := l) (evd_var rfl (t0.ex e03)) (evd_var rfl (t2.ex e03)) rfl (facL_row hfs)) (evd_var rfl tv1) rfl (d := gdD f) (by rw [List.getElem?_map, hf]; rfl)) fun y6 H4 e4 t6 => ?_)
    have e04 := e03.trans e4
    have hlen : xs.length ≤ 4 := by
      rw [al.length]; simp; omega
    have fin : ∀ (rr : List Gd) (v : V) (H5 : Hp) (σ5 : L2.St), (aheadL FF l st).take (k + 1) = (aheadL FF l st).take k ++ [rr] → Ex H4 H5 → Tp K C H5 v (rowD rr) → (∃ (o4 o5 o6 o7 o8 o9 o10 : Option V), σ5 = [some x0, some x1, some x2, some (.ref p), o4, o5, o6, o7, o8, o9, o10]) → Pv (k + 1) σ5 (upd H5 p (.lst (xs ++ [v]))) := by
      rintro rr v H5 σ5 ht e5 tv ⟨o4, o5, o6, o7, o8, o9, o10, rfl⟩
      refine ⟨(e04.trans e5).mut hp, hkl, xs ++ [v], _, _, _, _, _, _, _, rfl, upd_same, ?_⟩
      rw [ht, List.map_append]
      exact ((al.ex ((e3.trans e4).trans e5)).app (.cons tv .nil)).upd ⟨_, ex_lst ((e3.trans e4).trans e5) hpx⟩ (by rw [← List.map_append]; exact noLs_map (fun _ => noL_rowD) _)
    refine do_if (b := decide ((k : Int) = (l : Int))) (evt_test (K := K) (C := C) (evd_eqI (evd_var rfl (tv1.ex e4)) (evd_var rfl (t2.ex e04)))) (fun hb H5 e5 => ?_) (fun hb H5 e5 => ?_)
    · have hb : k = l := by
        have := of_decide_eq_true hb
        omega
      rw [if_pos hb] at htk
      refine do_app (K := K) (C := C) rfl (ex_lst ((e3.trans e4).trans e5) hpx) (evd_tuple (evn_lc2 (es := (row.map fun x => -x).map gdD) (f := fun j => (Dt.int (row.getD j 0).a, Dt.int (row.getD j 0).b)) (evi_tup (evd_var rfl ((tv2.ex e4).ex e5))) (by simp) (by simp; omega) (noLs_map (fun _ => noL_gdD) _) (fun _ _ => rfl) (fun j d hj => ?_) fun j e vx vy H6 hj he e6 ux uy => ?_)) (by omega) fun v H6 e6 tv => fin _ v H6 _ htk (e5.trans e6) tv ⟨_, _, _, _, _, _, _, rfl⟩
      · rw [List.getElem?_map] at hj
        cases hz : row[j]? with
        | none => rw [hz] at hj; simp at hj
        | some z =>
          rw [hz] at hj
          cases hj
          have : row.getD j 0 = z := by simp [hz]
          rw [this]; rfl
      · rw [List.map_map, List.getElem?_map] at he
        cases hz : row[j]? with
        | none => rw [hz] at he; simp at he
        | some z =>
          rw [hz] at he
          cases he
          have : row.getD j 0 = z := by simp [hz]
          rw [this] at ux uy
          refine (evd_tup (eds_cons (evd_sub evd_int (evd_var rfl ux)) (eds_cons (evd_sub evd_int (evd_var rfl uy)) eds_nil)) (by simp)).to ?_
          show _ = gdD (-z)
          unfold gdD
          rw [Gd.neg_a, Gd.neg_b, Int.zero_sub, Int.zero_sub]
    · have hb : ¬ k = l := by
        intro z; rw [z] at hb; simp at hb
      rw [if_neg hb] at htk
      refine do_app (K := K) (C := C) rfl (ex_lst ((e3.trans e4).trans e5) hpx) ((evd_tuple (evn_zipG (xs := row) (ys := head) gdD gdD (fun x y => gdD (x + f * y)) (fun _ _ => noL_gdD) (by omega) (eds_cons (evd_var rfl ((tv2.ex e4).ex e5)) (eds_cons (evd_ixT (n := l) (evd_var rfl (t1.ex (e04.trans e5))) (evd_var rfl (t2.ex (e04.trans e5))) rfl (by rw [List.getElem?_map, hh]; rfl)) eds_nil)) (fun _ _ => rfl) fun j x y vx vy H6 h1 h2 e6 ux uy =>
        evd_call (eds_cons (evd_var rfl ux) (eds_cons (evd_call (eds_cons (evd_var rfl ((t6.ex e5).ex e6)) (eds_cons (evd_var rfl uy) eds_nil)) ⟨f, y, rfl, hlo, rfl⟩) eds_nil)) ⟨x, f * y, rfl, rfl⟩)).to (dx := rowD (List.zipWith (fun x y => x + f * y) row head)) (by unfold rowD; rw [List.map_zipWith])) (by omega) fun v H6 e6 tv => fin _ v H6 _ htk (e5.trans e6) tv ⟨_, _, _, _, _, _, _, rfl⟩
  · rintro σ2 H2 ⟨e2, _, xs, o4, o5, o6, o7, o8, o9, o10, rfl, hpx, al⟩
    rw [enuD_len, List.length_map, ← hal, List.take_length] at al
    exact do_ret (K := K) (C := C) (d := stD (aheadL FF l st)) (evd_tupleL (evd_var rfl (.lst (sq_of hpx) al))) fun v H5 e5 t => q v H5 (e2.trans e5) t
/-! _law_normal -/
abbrev s__law_normal : Stmt := topS 62
theorem sc__law_normal : FnScope ["_law_factors_here", "_law_state_here", "_law_found", "_law_left"] ["_law_factors_here", "_law_state_here"] (defScope s__law_normal) := ⟨rfl, rfl, rfl, by decide +kernel, rfl, by decide +kernel, by decide +kernel⟩
def R__law_normal (ds : List Dt) (d : Dt) : Prop := ∃ (g : Bool) (n : Nat) (F : List (List Gd)) (u : List Nat), ds = [facL F, stD (stateL n F u)] ∧ FacOk g n F ∧ Sys n (fac F) ∧ ok n u ∧ u.length ≤ 40 ∧ d = wordD (due n F u)
abbrev sp__law_normal (K : PySem.W.Frag) (C : Addr) : Sp := spP K C R__law_normal
theorem ok__law_normal {f : Addr} {fd : FuncData} (F : Fun K "_law_normal" "_law_normal" s__law_normal f fd) (T : Bt mg) (c__law_lefts : Cl P w K mg base "_law_lefts" 2 (sp__law_lefts K C)) (c__law_ahead : Cl P w K mg base "_law_ahead" 2 (sp__law_ahead K C)) : FnOk P w K mg base CX0 3 f fd ["_law_factors_here", "_law_state_here"] (sp__law_normal K C) := by
  refine F.ok sc__law_normal (spP_len (n := 2) fun ds d ⟨g, n, F, u, h, _⟩ => by rw [h]; rfl) fun cdv A outer s H vs Q E hr h => ?_
  obtain ⟨ds, d, al, ⟨g, n, FF, u, rfl, hF, X, hu, hul, rfl⟩, q⟩ := h
  obtain _ | ⟨t0, _ | ⟨t1, _ | _⟩⟩ := al
  rename_i x0 x1
  have nd := sc__law_normal.nd
  refine ⟨_, pss_cons (ps_par (i := 2) (j := 3) rfl nd rfl rfl (by decide) rfl rfl (pa_cons (pe_lst pa_nil) (pa_cons (pe_cl c__law_lefts (hr.mono (by decide)) rfl (pa_cons (pv 1) pa_nil)) pa_nil)) (by rfl))
    (pss_cons (ps_while PassesOwn.never (pt_cmpR (op_neD (hu64 hr)) (pv 3) (pe_lst pa_nil) (nomark _)) (pss_cons (ps_expr (pe_bm PySem.F.plainAttrs_list PySem.F.slot_list_append PySem.F.type_list_append mt_append (pv 2) (pa_cons (pe_ix ix_list (pv 3) pe_int (fun _ _ => rfl)) pa_nil)))
    (pss_cons (ps_set (i := 1) nd rfl (Or.inl rfl) (pe_cl c__law_ahead (hr.mono (by decide)) rfl (pa_cons (pv 0) (pa_cons (pv 1) (pa_cons (pe_ix ix_list (pv 3) pe_int (fun _ _ => rfl)) pa_nil)))))
    (pss_one (ps_set (i := 3) nd rfl (Or.inl rfl) (pe_cl c__law_lefts (hr.mono (by decide)) rfl (pa_cons (pv 1) pa_nil)))))))
    (pss_one (ps_ret (pe_callTy call_tuple_of (by rfl) T.tuple (by decide +kernel) (pa_cons (pv 2) pa_nil))))), ?_⟩
  have W := hF.wf
  have hn4 := hF.n4
  have hlf : ∀ (v : List Nat) (σ : L2.St) (H' : Hp) (xf : V), σ[1]? = some (some xf) → ok n v → v.length ≤ 200 → Tp K C H' xf (stD (stateL n FF v)) →
      EvN K C (tCall (sp__law_lefts K C) [] E0 (tCons (tVar 1) tNil)) σ H' (intsD (leftsL (stateL n FF v))) := fun v σ H' xf h1 hv hl tf =>
    evn_call (eds_cons (evd_var h1 tf) eds_nil) ⟨_, rfl, fun r hr' => ⟨stateL_small hF hv hl r hr', by rw [((stateL_ok hF hv).2 r hr').1]; omega⟩, by rw [(stateL_ok hF hv).1]; omega, rfl⟩
  refine do_seq (par2 ?_)
  refine evn_lst (K := K) (C := C) eds_nil (by simp) H (Ex.refl _) _ fun p xs H1 hp e1 hx al => ?_
  cases al
  refine hlf u _ H1 x1 rfl hu (by omega) (t1.ex e1) H1 (Ex.refl _) _ fun p2 ys H2 hp2 e2 hy aly => ⟨_, _, rfl, ?_⟩
  have e12 := e1.trans e2
  have ne2 : p2 ≠ p := fun z => by rw [z, hx] at hp2; cases hp2
  refine do_seq (do_while (fun m σ H' => ∃ (xf : V) (p2 : Addr) (v pre : List Nat) (xs ys : List V), σ = [some x0, some xf, some (.ref p), some (.ref p2)] ∧ Ex H H' ∧ H' p = some (.lst xs) ∧ TpAll K C H' xs (intsD pre) ∧ ok n v ∧ v.length ≤ 40 + pre.length ∧
      Tp K C H' xf (stD (stateL n FF v)) ∧ p2 ≠ p ∧ H' p2 = some (.lst ys) ∧ TpAll K C H' ys (intsD (leftsL (stateL n FF v))) ∧ due n FF u = pre ++ normL FF 100 (stateL n FF v) ∧ len n (fac FF) v + pre.length = len n (fac FF) u ∧ m = len n (fac FF) v)
    (len n (fac FF) u) ⟨x1, p2, u, [], [], ys, rfl, e12, ex_lst e2 hx, .nil, hu, by simpa using hul, t1.ex e12, ne2, hy, aly, rfl, by simp, rfl⟩ ?_)
  rintro m σ' H' ⟨xf, p2, v, pre, xs, ys, rfl, e3, hpx, al, hv, hvl, tf, ne2, hpy, aly, hdue, hlen, rfl⟩
  have hlu : len n (fac FF) u ≤ 40 := Nat.le_trans (len_self hu) hul
  refine ⟨!(leftsL (stateL n FF v)).isEmpty, evt_test (evd_neD (K := K) (C := C) (evd_var rfl (.lst (sq_of hpy) aly)) (evd_of_n (evn_lst eds_nil (by simp))) 1 (by decide) (flat_ints _) rfl (by
    rw [List.isEmpty_iff]
    constructor
    · intro h; rw [h]; rfl
    · intro h
      have := Dt.lst.inj h
      simpa [intsD] using this)), fun hb H4 e4 => ?_, fun hb H4 e4 => ?_⟩
  · rw [stateL_st W v hv] at hb aly hdue
    cases hl : leftsL (stOf n (fac FF) v) with
    | nil => rw [hl] at hb; simp at hb
    | cons l r =>
      rw [hl] at aly
      obtain ⟨hln, hleft⟩ := leftsL_cons hl
      have hll := (left_iff X v hv l hln).mp hleft
      rw [normL_turn X hv (by omega) hl] at hdue
      have hcv : ok n (l :: v) := hv.cons hln
      have g0 : (intsD (l :: r))[0]? = some (.int (l : Int)) := rfl
      refine do_seq (do_app (K := K) (C := C) rfl (ex_lst e4 hpx) (evd_ixL (n := 0) (evd_var rfl (.lst (sq_of (ex_lst e4 hpy)) (aly.ex e4))) evd_int rfl g0) (by rw [al.length]; simp; omega) fun y H5 e5 ty => ?_)
      have e45 := e4.trans e5
      have h5 := ex_lst e45 hpx
      have e35 := e3.trans e45
      have al5 := (al.ex e45).app (.cons ty .nil)
      rw [nat1] at al5
      have eu := e35.mut (o := .lst (xs ++ [y])) hp
      have al6 := al5.upd (p := p) (o := .lst (xs ++ [y])) ⟨_, h5⟩ (noLs_intsD _)
      have aly6 := (aly.ex e45).upd (p := p) (o := .lst (xs ++ [y])) ⟨_, h5⟩ (noLs_intsD _)
      have hy6 : upd H5 p (.lst (xs ++ [y])) p2 = some (.lst ys) := by rw [upd_ne ne2]; exact ex_lst e45 hpy
      have tf6 := (tf.ex e45).upd (p := p) (o := .lst (xs ++ [y])) ⟨_, h5⟩ noL_stD
      refine do_seq (do_set (K := K) (C := C) (evd_call (eds_cons (evd_var rfl (t0.ex eu)) (eds_cons (evd_var rfl tf6) (eds_cons (evd_ixL (n := 0) (evd_var rfl (.lst (sq_of hy6) aly6)) evd_int rfl g0) eds_nil))) ⟨g, n, FF, _, l, rfl, hF, stateL_ok hF hv, hln, rfl⟩) fun xf' H7 e7 tf7 => ?_)
      rw [stateL_st W v hv, aheadL_st X hln, ← stateL_st W _ hcv] at tf7
      refine do_setN (K := K) (C := C) (hlf (l :: v) _ H7 xf' rfl hcv (by simp; omega) tf7) fun p3 zs H8 hp3 e8 hz alz => ?_
      have h7p := ex_lst e7 (upd_same (a := p) (o := HO.lst (xs ++ [y])) (H := H5))
      refine ⟨len n (fac FF) (l :: v), by omega, xf', p3, l :: v, pre ++ [l], xs ++ [y], zs, rfl, (eu.trans e7).trans e8, ex_lst e8 h7p, al6.ex (e7.trans e8), hcv, by simp; omega, tf7.ex e8, ?_, hz, alz, ?_, by simp; omega, rfl⟩
      · intro z; rw [z, h7p] at hp3; cases hp3
      · rw [hdue, stateL_st W _ hcv]; simp
  · rw [stateL_st W v hv] at hb aly hdue
    cases hl : leftsL (stOf n (fac FF) v) with
    | nil =>
      rw [normL_end hl, List.append_nil] at hdue
      exact do_ret (K := K) (C := C) (d := wordD (due n FF u)) ((evd_tupleL (evd_var rfl (.lst (sq_of (ex_lst e4 hpx)) (al.ex e4)))).to (by rw [hdue]; rfl)) fun y H5 e5 ty => q y H5 ((e3.trans e4).trans e5) ty
    | cons l r => rw [hl] at hb; simp at hb
end
end UW
namespace UW
open PySem PySem.Spec PyProof.Rows L2 Evl StX SlX ClX RZ
/-! bonds that grow -/
def lexB (a b : Bo) : Prop := a.1 < b.1 ∨ (a.1 = b.1 ∧ a.2.1 < b.2.1)
def AscB (bs : List Bo) : Prop := ∀ (k : Nat) (a b : Bo), bs[k]? = some a → bs[k + 1]? = some b → lexB a b
theorem asc_nil : AscB [] := fun k a b h => by simp at h
theorem asc_snoc {bs : List Bo} {x : Bo} (h : AscB bs) (hx : ∀ b ∈ bs, lexB b x) : AscB (bs ++ [x]) := by
  intro k a b ha hb
  by_cases hk : k + 1 < bs.length
  · rw [List.getElem?_append_left (by omega)] at ha
    rw [List.getElem?_append_left hk] at hb
    exact h k a b ha hb
  · have hkl : k + 1 < (bs ++ [x]).length := (List.getElem?_eq_some_iff.mp hb).1
    have hl : (bs ++ [x]).length = bs.length + 1 := by simp
    have hk2 : k + 1 = bs.length := by omega
    rw [List.getElem?_append_left (by omega)] at ha
    rw [List.getElem?_append_right (by omega), hk2, Nat.sub_self] at hb
    simp at hb
    subst hb
    exact hx a (List.mem_of_getElem? ha)
section
variable {P : Program} {w : World} {K : PySem.W.Frag} {mg : Str → Option Value} {base : Heap} {C Pt : Addr}
/-! _law_system -/
abbrev s__law_system : Stmt := topS 64
theorem sc__law_system : FnScope ["_law_vat_here", "_law_letters", "_law_found", "_law_one", "_law_other", "_law_bond"] ["_law_vat_here"] (defScope s__law_system) := ⟨rfl, rfl, rfl, by decide +kernel, rfl, by decide +kernel, by decide +kernel⟩
def sp__law_system (K : PySem.W.Frag) (C : Addr) : Sp := fun vs H Q _ => ∃ a : Addr, vs = [.ref a] ∧ VatAt H a ∧ ∀ v n bs H', VB n bs → ExV a H H' → Tp K C H' v (sysD (n, bs)) → Q v H'
theorem ok__law_system {f : Addr} {fd : FuncData} (F : Fun K "_law_system" "_law_system" s__law_system f fd) (T : Bt mg) (c__law_tap : Cl P w K mg base "_law_tap" 1 (sp__law_tap K C)) (c__law_taste : Cl P w K mg base "_law_taste" 2 (sp__law_taste K C)) (c__law_told_systems : Cl P w K mg base "_law_told_systems" 1 (sp__law_told_systems K C)) : FnOk P w K mg base CX0 3 f fd ["_law_vat_here"] (sp__law_system K C) := by
  refine F.ok sc__law_system (fun vs H Q E ⟨a, h, _⟩ => by rw [h]; rfl) fun cdv A outer s H vs Q E hr h => ?_
  obtain ⟨a, rfl, v, q⟩ := h
  have nd := sc__law_system.nd
  refine ⟨_, pss_cons (ps_if (pt_cmpR op_gt (pe_cl c__law_tap (hr.mono (by decide)) rfl (pa_cons (pv 0) (pa_cons pe_int pa_nil))) pe_int (nomark _)) (pss_one (ps_ret (pe_cl c__law_taste (hr.mono (by decide)) rfl (pa_cons (pv 0) (pa_cons (pe_cl0 c__law_told_systems (hr.mono (by decide)) rfl) pa_nil))))) (pss_nil))
    (pss_cons (ps_par (i := 1) (j := 2) rfl nd rfl rfl (by decide) rfl rfl (pa_cons (pe_op op_add pe_int (pe_cl c__law_tap (hr.mono (by decide)) rfl (pa_cons (pv 0) (pa_cons pe_int pa_nil)))) (pa_cons (pe_lst pa_nil) pa_nil)) (by rfl))
    (pss_cons (ps_for PassesOwn.never rfl (pi_range1 (by rfl) T.range (pa_cons (pv 1) pa_nil)) (pg_name (i := 3) nd rfl (Or.inl rfl)) (pss_one (ps_for PassesOwn.never rfl (pi_range2 (by rfl) T.range (pa_cons (pe_op op_add (pv 3) pe_int) (pa_cons (pv 1) pa_nil))) (pg_name (i := 4) nd rfl (Or.inl rfl)) (pss_cons (ps_set (i := 5) nd rfl (Or.inl rfl) (pe_cl c__law_taste (hr.mono (by decide)) rfl (pa_cons (pv 0) (pa_cons (pe_lst (pa_cons pe_int (pa_cons pe_int (pa_cons pe_int (pa_cons pe_int (pa_cons pe_int (pa_cons pe_int (pa_cons pe_int (pa_cons pe_int pa_nil))))))))) pa_nil))))
    (pss_one (ps_if (pt_cmpR op_ne (pv 5) pe_int (nomark _)) (pss_one (ps_expr (pe_bm PySem.F.plainAttrs_list PySem.F.slot_list_append PySem.F.type_list_append mt_append (pv 2) (pa_cons (pe_tup (pa_cons (pv 3) (pa_cons (pv 4) (pa_cons (pv 5) pa_nil)))) pa_nil)))) (pss_nil)))))))
    (pss_one (ps_ret (pe_tup (pa_cons (pv 1) (pa_cons (pe_callTy call_tuple_of (by rfl) T.tuple (by decide +kernel) (pa_cons (pv 2) pa_nil)) pa_nil))))))), ?_⟩
  refine do_seq ?_
  refine tap_run (m := 4) v rfl (evd_int (C := C)) rfl (by omega) (by omega) fun r1 H1 hr1 e1 => ?_
  refine ⟨(r1 : Int), 0, rfl, rfl, _, rfl, ?_⟩
  refine ite2 (fun h1 => ?_) fun h1 => ?_
  · -- a told one
    refine taste_run e1.at rfl (evn_call (K := K) (C := C) eds_nil ⟨rfl, rfl⟩) (noLs_map (fun _ => noL_sysD) _) (by rw [List.length_map]; decide) (by rw [List.length_map]; decide) fun y d H' hd e t => ?_
    obtain ⟨p, hp, rfl⟩ := List.mem_map.mp hd
    exact q y p.1 p.2 H' (told_ok p hp) (e1.trans e) t
  · -- a drawn one
    unfold tNext
    dsimp only
    refine do_seq (par2 ?_)
    refine tap_run (m := 4) e1.at rfl (evd_int (C := C)) rfl (by omega) (by omega) fun r H2 hr2 e2 => ?_
    refine ⟨1, (r : Int), rfl, rfl, ?_⟩
    refine evn_lst (K := K) (C := C) eds_nil (by simp) H2 (Ex.refl _) _ fun p xs H3 hp e3 hx al => ?_
    cases al
    refine ⟨_, _, rfl, ?_⟩
    obtain ⟨n, hn⟩ : ∃ n : Nat, n = 1 + r := ⟨_, rfl⟩
    have hn' : (1 : Int) + (r : Int) = (n : Int) := by omega
    dsimp only
    rw [hn']
    have f2 : ExV a H H2 := e1.trans e2
    have f3 : ExV a H H3 := f2.ex e3
    have hpH : H p = none := f2.fresh hp
    have npa : p ≠ a := (vat_ne f2.at hp).symm
    let In : Nat → List Bo → L2.St → Hp → Prop := fun m bs σ H' => ∃ (xs : List V) (o3 o4 o5 : Option V), σ = [some (.ref a), some (.int (n : Int)), some (.ref p), o3, o4, o5] ∧ ExV a H H' ∧ H' p = some (.lst xs) ∧ TpAll K C H' xs (bs.map bondD) ∧ (∀ b ∈ bs, BOk n b) ∧ AscB bs ∧ bs.length ≤ m
    refine do_seq ⟨_, rfl, (n : Int), rfl, by omega, by omega, ?_⟩
    refine for_range (lo := 0) (n := n) (fun i σ H' => ∃ bs, (∀ b ∈ bs, b.1 < i) ∧ In (4 * i) bs σ H') ⟨[], (by simp), [], none, none, none, rfl, f3, hx, .nil, (by simp), asc_nil, Nat.zero_le _⟩ ?_ ?_
    · rintro i σ H' hi ⟨bs, hbi, xs, o3, o4, o5, rfl, e, hpx, al, hok, hasc, hlen⟩
      have hi0 : (0 : Int) + (i : Int) = (i : Int) := by omega
      rw [hi0]
      refine ⟨_, rfl, _, _, rfl, rfl, _, rfl, _, _, rfl, ⟨by omega, by omega, by omega, by omega⟩, ?_⟩
      have hm : ((n : Int) - ((i : Int) + 1)).toNat = n - (i + 1) := by omega
      rw [hm]
      refine for_range (lo := (i : Int) + 1) (n := n - (i + 1)) (fun j σ H' => ∃ bs, (∀ b ∈ bs, b.1 < i ∨ (b.1 = i ∧ b.2.1 < i + 1 + j)) ∧ (∃ (xs : List V) (o4 o5 : Option V), σ = [some (.ref a), some (.int (n : Int)), some (.ref p), some (.int (i : Int)), o4, o5] ∧ ExV a H H' ∧ H' p = some (.lst xs) ∧ TpAll K C H' xs (bs.map bondD) ∧ (∀ b ∈ bs, BOk n b) ∧ AscB bs ∧ bs.length ≤ 4 * i + j))
        ⟨bs, (fun b hb => .inl (hbi b hb)), xs, _, _, rfl, e, hpx, al, hok, hasc, hlen⟩ ?_ ?_
      · rintro j σ H' hj ⟨bs, hbi, xs, o4, o5, rfl, e, hpx, al, hok, hasc, hlen⟩
        have hj0 : (i : Int) + 1 + (j : Int) = ((i + 1 + j : Nat) : Int) := by omega
        rw [hj0]
        refine do_seq ?_
        refine taste_run e.at rfl (evn_lst (K := K) (C := C) (eds_cons evd_int (eds_cons evd_int (eds_cons evd_int (eds_cons evd_int (eds_cons evd_int (eds_cons evd_int (eds_cons evd_int (eds_cons evd_int eds_nil)))))))) (by simp)) (by simp) (by simp) (by simp) fun y d H4 hd e4 t => ?_
        have f4 := e.trans e4
        have hpx4 := lst_exv hpx npa e4
        have al4 := al.exv (noLs_map (fun _ => noL_bondD) _) e.at e4
        obtain ⟨k, hk, rfl⟩ : ∃ k : Nat, (k = 2 ∨ isB k) ∧ d = .int (k : Int) := by
          unfold isB
          simp only [List.mem_cons, List.not_mem_nil, or_false] at hd
          rcases hd with h | h | h | h | h | h | h | h
          · exact ⟨2, by omega, h⟩
          · exact ⟨2, by omega, h⟩
          · exact ⟨3, by omega, h⟩
          · exact ⟨3, by omega, h⟩
          · exact ⟨4, by omega, h⟩
          · exact ⟨5, by omega, h⟩
          · exact ⟨6, by omega, h⟩
          · exact ⟨0, by omega, h⟩
        refine do_if (b := !decide ((k : Int) = 2)) (evt_test (K := K) (C := C) (evd_neI (evd_var rfl t) evd_int)) (fun hb H5 e5 => ?_) fun hb H5 e5 => ?_
        · have hk2 : k ≠ 2 := by
            intro z; rw [z] at hb; simp at hb
          have hkB : isB k := by rcases hk with h | h; exact absurd h hk2; exact h
          have hlx : xs.length ≤ 100 := by
            have := al.length
            rw [List.length_map] at this
            omega
          refine do_app (K := K) (C := C) (d := bondD (i, i + 1 + j, k)) rfl (ex_lst e5 hpx4) (evd_tup (eds_cons (evd_var rfl (.int _)) (eds_cons (evd_var rfl (.int _)) (eds_cons (evd_var rfl (t.ex e5)) eds_nil))) (by simp)) (by omega) fun z H6 e6 tz => ?_
          have f6 := (f4.ex e5).ex e6
          refine ⟨bs ++ [(i, i + 1 + j, k)], ?_, xs ++ [z], _, _, rfl, f6.mut hpH npa, upd_same, ?_, ?_, ?_, ?_⟩
          · intro b hb
            rcases List.mem_append.mp hb with hb | hb
            · rcases hbi b hb with h | h
              · exact .inl h
              · exact .inr ⟨h.1, by omega⟩
            · rw [List.mem_singleton.mp hb]
              exact .inr ⟨rfl, by show i + 1 + j < i + 1 + (j + 1); omega⟩
          · rw [List.map_append]
            exact ((al4.ex (e5.trans e6)).app (.cons tz .nil)).upd ⟨_, ex_lst (e5.trans e6) hpx4⟩ (by rw [← List.map_append]; exact noLs_map (fun _ => noL_bondD) _)
          · intro b hb
            rcases List.mem_append.mp hb with hb | hb
            · exact hok b hb
            · rw [List.mem_singleton.mp hb]
              exact ⟨by show i < i + 1 + j; omega, by show i + 1 + j < n; omega, hkB⟩
          · refine asc_snoc hasc fun b hb => ?_
            rcases hbi b hb with h | h
            · exact .inl h
            · exact .inr h
          · simp; omega
        · exact ⟨bs, (fun b hb => by
            rcases hbi b hb with h | h
            · exact .inl h
            · exact .inr ⟨h.1, by omega⟩), xs, _, _, rfl, f4.ex e5, ex_lst e5 hpx4, al4.ex e5, hok, hasc, by omega⟩
      · rintro σ H' ⟨bs, hbi, xs, o4, o5, rfl, e, hpx, al, hok, hasc, hlen⟩
        exact ⟨bs, (fun b hb => by
            rcases hbi b hb with h | h
            · omega
            · omega), xs, _, _, _, rfl, e, hpx, al, hok, hasc, by omega⟩
    · rintro σ H' ⟨bs, hbi, xs, o3, o4, o5, rfl, e, hpx, al, hok, hasc, hlen⟩
      refine do_ret (K := K) (C := C) (d := sysD (n, bs)) (evd_tup (eds_cons (evd_var rfl (.int (n : Int))) (eds_cons (evd_tupleL (evd_var rfl (.lst (sq_of hpx) al))) eds_nil)) (by simp)) fun y H5 e5 t => ?_
      exact q y n bs H5 ⟨by omega, by omega, hok, hasc, by omega⟩ (e.ex e5) t
/-! _law_can_be_less -/
theorem flat_gd (x : Gd) : flatD 1 (gdD x) = true := by simp [flatD, gdD]
theorem flat_row (r : List Gd) : flatD 2 (rowD r) = true := by
  unfold rowD
  simp only [flatD, List.all_eq_true]
  intro d hd
  obtain ⟨x, _, rfl⟩ := List.mem_map.mp hd
  exact flat_gd x
theorem flat_st (st : List (List Gd)) : flatD 3 (stD st) = true := by
  unfold stD
  simp only [flatD, List.all_eq_true]
  intro d hd
  obtain ⟨x, _, rfl⟩ := List.mem_map.mp hd
  exact flat_row x
theorem flat_word (u : List Nat) : flatD 1 (wordD u) = true := by
  unfold wordD
  simp [flatD]
theorem map_inj {α β : Type} {f : α → β} (h : ∀ x y, f x = f y → x = y) : ∀ {xs ys : List α}, xs.map f = ys.map f → xs = ys
  | [], [], _ => rfl
  | x :: xs, y :: ys, e => by
    simp only [List.map_cons, List.cons.injEq] at e
    rw [h _ _ e.1, map_inj h e.2]
  | [], y :: ys, e => by simp at e
  | x :: xs, [], e => by simp at e
theorem gdD_inj (x y : Gd) (h : gdD x = gdD y) : x = y := by
  unfold gdD at h
  have := Dt.tup.inj h
  simp only [List.cons.injEq, Dt.int.injEq, and_true] at this
  exact Gd.ext' this.1 this.2
theorem rowD_inj (x y : List Gd) (h : rowD x = rowD y) : x = y := map_inj gdD_inj (Dt.tup.inj h)
theorem stD_inj {x y : List (List Gd)} : stD x = stD y ↔ x = y := ⟨fun h => map_inj rowD_inj (Dt.tup.inj h), fun h => by rw [h]⟩
theorem wordD_inj {x y : List Nat} : wordD x = wordD y ↔ x = y := ⟨fun h => map_inj (fun a b e => by
  have := Dt.int.inj e
  omega) (Dt.tup.inj h), fun h => by rw [h]⟩
abbrev s__law_can_be_less : Stmt := topS 66
theorem sc__law_can_be_less : FnScope ["_law_factors_here", "_law_word_here", "_law_state_here", "_law_low", "_law_high"] ["_law_factors_here", "_law_word_here"] (defScope s__law_can_be_less) := ⟨rfl, rfl, rfl, by decide +kernel, rfl, by decide +kernel, by decide +kernel⟩
def R__law_can_be_less (ds : List Dt) (d : Dt) : Prop := ∃ (g : Bool) (n : Nat) (F : List (List Gd)) (u : List Nat) (b : Bool), ds = [facL F, wordD u] ∧ FacOk g n F ∧ ok n u ∧ u.length ≤ 40 ∧ d = .bl b ∧ (b = true ↔ ∃ low high, low < high ∧ high < u.length ∧ stateL n F (less u low high) = stateL n F u)
abbrev sp__law_can_be_less (K : PySem.W.Frag) (C : Addr) : Sp := spP K C R__law_can_be_less
theorem ok__law_can_be_less {f : Addr} {fd : FuncData} (F : Fun K "_law_can_be_less" "_law_can_be_less" s__law_can_be_less f fd) (T : Bt mg) (c__law_state : Cl P w K mg base "_law_state" 4 (sp__law_state K C)) : FnOk P w K mg base CX0 5 f fd ["_law_factors_here", "_law_word_here"] (sp__law_can_be_less K C) := by
  refine F.ok sc__law_can_be_less (spP_len (n := 2) fun ds d ⟨g, n, F, u, b, h, _⟩ => by rw [h]; rfl) fun cdv A outer s H vs Q E hr h => ?_
  obtain ⟨ds, d, al, ⟨g, n, FF, u, b, rfl, hF, hu, hul, rfl, hb⟩, q⟩ := h
  obtain _ | ⟨t0, _ | ⟨t1, _ | _⟩⟩ := al
  rename_i x0 x1
  have nd := sc__law_can_be_less.nd
  refine ⟨_, pss_cons (ps_set (i := 2) nd rfl (Or.inl rfl) (pe_cl c__law_state (hr.mono (by decide)) rfl (pa_cons (pv 0) (pa_cons (pv 1) pa_nil))))
    (pss_cons (ps_for PassesOwn.never rfl (pi_range1 (by rfl) T.range (pa_cons (pe_callB call_len_seq (by rfl) T.len PySem.boot_len (pa_cons (pv 1) pa_nil)) pa_nil)) (pg_name (i := 3) nd rfl (Or.inl rfl)) (pss_one (ps_for PassesOwn.never rfl (pi_range2 (by rfl) T.range (pa_cons (pe_op op_add (pv 3) pe_int) (pa_cons (pe_callB call_len_seq (by rfl) T.len PySem.boot_len (pa_cons (pv 1) pa_nil)) pa_nil))) (pg_name (i := 4) nd rfl (Or.inl rfl)) (pss_one (ps_if (pt_cmpR (op_eqD (hu64 hr)) (pe_cl c__law_state (hr.mono (by decide)) rfl (pa_cons (pv 0) (pa_cons (pe_op op_catA (pe_op op_catA (pe_slice sl_tupA (pv 1) po_none (po_some (pv 3))) (pe_slice sl_tupA (pv 1) (po_some (pe_op op_add (pv 3) pe_int)) (po_some (pv 4)))) (pe_slice sl_tupA (pv 1) (po_some (pe_op op_add (pv 4) pe_int)) po_none)) pa_nil))) (pv 2) (nomark _)) (pss_one (ps_ret pe_bl)) (pss_nil))))))
    (pss_one (ps_ret pe_bl))), ?_⟩
  have lenu : (u.map fun (a : Nat) => Dt.int (a : Int)).length = u.length := by simp
  refine do_seq (do_set (K := K) (C := C) (evd_call (eds_cons (evd_var rfl t0) (eds_cons (evd_var rfl t1) eds_nil)) ⟨g, n, FF, u, rfl, hF, hu, by omega, rfl⟩) fun x2 H1 e1 t2 => ?_)
  refine do_seq (do_for (K := K) (C := C) (ds := rngD 0 u.length) (H' := H1) (evi_rng1 (eds_cons ((evd_lenT (evd_var rfl (t1.ex e1))).to (by rw [lenu])) eds_nil) (by omega)) (Ex.refl _)
    (fun i σ H' => Ex H1 H' ∧ (∃ o3 o4 : Option V, σ = [some x0, some x1, some x2, o3, o4]) ∧ ∀ low high, low < i → low < high → high < u.length → stateL n FF (less u low high) ≠ stateL n FF u) (fun H2 e2 => ⟨e2, ⟨none, none, rfl⟩, fun _ _ h => by omega⟩) (fun k σ2 H2 z => z.1) ?_ ?_)
  · rintro i d x σ2 H2 H3 hd ⟨e2, ⟨o3, o4, rfl⟩, hno⟩ e3 tx
    have hi : i < u.length := by
      have := (List.getElem?_eq_some_iff.mp hd).1
      rwa [rngD_len] at this
    rw [rngD_get hi, Int.zero_add] at hd
    cases hd
    have e23 := e2.trans e3
    have e13 := e1.trans e23
    refine do_for (K := K) (C := C) (ds := rngD (((i + 1 : Nat) : Int)) (u.length - (i + 1))) (H' := H3) ?_ (Ex.refl _)
      (fun j σ H' => Ex H3 H' ∧ (∃ o4 : Option V, σ = [some x0, some x1, some x2, some x, o4]) ∧ ∀ low high, (low < i ∨ (low = i ∧ high < i + 1 + j)) → low < high → high < u.length → stateL n FF (less u low high) ≠ stateL n FF u) (fun H4 e4 => ⟨e4, ⟨o4, rfl⟩, fun low high h h1 h2 => ?_⟩) (fun k σ2 H2 z => z.1) ?_ ?_
    · have hr := evi_rng2 (K := K) (C := C) (H := H3) (σ := [some x0, some x1, some x2, some x, o4]) (lo := ((i + 1 : Nat) : Int)) (hi := (u.length : Int)) (eds_cons ((evd_add (evd_var (n := 3) rfl tx) (evd_int (i := 1))).to (by congr 1)) (eds_cons ((evd_lenT (evd_var (n := 1) rfl (t1.ex e13))).to (by rw [lenu])) eds_nil)) ⟨by omega, by omega, by omega, by omega⟩
      have : ((u.length : Int) - ((i + 1 : Nat) : Int)).toNat = u.length - (i + 1) := by omega
      rw [this] at hr
      exact hr
    · rcases h with h | h
      · exact hno low high h h1 h2
      · omega
    · rintro j d y σ3 H4 H5 hd ⟨e4, ⟨o4, rfl⟩, hno'⟩ e5 ty
      have hj : j < u.length - (i + 1) := by
        have := (List.getElem?_eq_some_iff.mp hd).1
        rwa [rngD_len] at this
      rw [rngD_get hj] at hd
      have hd' := Option.some.inj hd
      have hij : (((i + 1 : Nat) : Int) + (j : Int)) = ((i + 1 + j : Nat) : Int) := by omega
      rw [hij] at hd'
      subst hd'
      have e45 := e4.trans e5
      have e15 := e13.trans e45
      have u1 := t1.ex e15
      have ux := tx.ex e45
      have hless : less u i (i + 1 + j) = u.take i ++ (u.take (i + 1 + j)).drop (i + 1) ++ u.drop (i + 1 + j + 1) := rfl
      have hll : (less u i (i + 1 + j)).length + 2 = u.length := less_len (by omega) (by omega)
      have c1 : ((i : Int) + 1) = ((i + 1 : Nat) : Int) := by omega
      have c2 : (((i + 1 + j : Nat) : Int) + 1) = ((i + 1 + j + 1 : Nat) : Int) := by omega
      refine do_if (b := decide (stateL n FF (less u i (i + 1 + j)) = stateL n FF u)) (evt_test (K := K) (C := C) (evd_eqD (d := stD (stateL n FF (less u i (i + 1 + j)))) (dx := stD (stateL n FF u)) (evd_call (ds := [facL FF, wordD (less u i (i + 1 + j))]) (eds_cons (evd_var rfl (t0.ex e15)) (eds_cons ((evd_cat (evd_cat (evd_sl (evd_var rfl u1) evp_none (evp_some (evd_var rfl ux))) (evd_sl (evd_var rfl u1) (evp_some ((evd_add (evd_var rfl ux) evd_int).to (by rw [c1]))) (evp_some (evd_var rfl ty))) (by rw [cutD_take, cutD_mid]; simp; omega)) (evd_sl (evd_var rfl u1) (evp_some ((evd_add (evd_var rfl ty) evd_int).to (by rw [c2]))) evp_none) (by rw [cutD_take, cutD_mid, cutD_drop]; simp; omega)).to (by
        rw [cutD_take, cutD_mid, cutD_drop, hless]
        unfold wordD
        simp [List.map_take, List.map_drop])) eds_nil)) ⟨g, n, FF, _, rfl, hF, less_ok hu _ _, by omega, rfl⟩) (evd_var rfl (t2.ex (e23.trans e45))) 3 (by decide) (flat_st _) (flat_st _) (by rw [decide_eq_true_eq, stD_inj]))) (fun hc H6 e6 => ?_) fun hc H6 e6 => ?_
      · have hc := of_decide_eq_true hc
        have : b = true := hb.mpr ⟨i, i + 1 + j, by omega, by omega, hc⟩
        rw [this] at q
        exact do_ret (K := K) (C := C) (d := .bl true) evd_bl fun v H7 e7 t => q v H7 ((e15.trans e6).trans e7) t
      · have hc := of_decide_eq_false hc
        refine ⟨e45.trans e6, ⟨_, rfl⟩, fun low high h h1 h2 => ?_⟩
        rcases h with h | ⟨h, h'⟩
        · exact hno' low high (.inl h) h1 h2
        · by_cases hh : high = i + 1 + j
          · rw [h, hh]; exact hc
          · exact hno' low high (.inr ⟨h, by omega⟩) h1 h2
    · rintro σ3 H4 ⟨e4, ⟨o4, rfl⟩, hno'⟩
      rw [rngD_len] at hno'
      refine ⟨e23.trans e4, ⟨_, _, rfl⟩, fun low high h h1 h2 => ?_⟩
      by_cases hh : low = i
      · exact hno' low high (.inr ⟨hh, by omega⟩) h1 h2
      · exact hno' low high (.inl (by omega)) h1 h2
  · rintro σ2 H2 ⟨e2, ⟨o3, o4, rfl⟩, hno⟩
    rw [rngD_len] at hno
    have : b = false := by
      cases hbb : b with
      | false => rfl
      | true =>
        obtain ⟨low, high, h1, h2, h3⟩ := hb.mp hbb
        exact absurd h3 (hno low high (by omega) h1 h2)
    rw [this] at q
    exact do_ret (D := { nx := fun _ H2 => Q .non H2, rt := Q }) (σ := [some x0, some x1, some x2, o3, o4]) (K := K) (C := C) (d := .bl false) evd_bl fun v H3 e3 t => q v H3 ((e1.trans e2).trans e3) t
end
end UW
namespace UW
open PySem PySem.Spec PyProof.Rows L2 Evl StX SlX ClX RZ
section
variable {K : PySem.W.Frag} {C : Addr} {H H' : Hp} {σ : L2.St} {ta tb te ti : TE} {d dx : Dt} {ds es : List Dt}
theorem neD_run {x y : V} {Q : VK} {c : Bool} (tx : Tp K C H x d) (ty : Tp K C H y dx) (k : Nat) (hk : k ≤ 64) (fd : flatD k d = true) (fx : flatD k dx = true) (hc : c = true ↔ d = dx) (q : Q (.bl (!c)) H) : rNeD K x y H Q := by
  obtain ⟨a1, b1⟩ := flat_shaped k fd
  obtain ⟨a2, b2⟩ := flat_shaped k fx
  refine ⟨_, _, flat_dp k fd tx, flat_dp k fx ty, by unfold SeqAt.shaped; rw [a1]; simp; omega, by unfold SeqAt.shaped; rw [a2]; simp; omega, ?_⟩
  have : PyData.eqv (toPy d) (toPy dx) = c := by
    rw [Bool.eq_iff_iff, flat_eqv k fd fx, hc]
  rw [this]; exact q
theorem evd_repT {k : Nat} (ha : EvD K C ta σ H (.tup ds)) (hb : EvD K C tb σ H (.int (k : Int))) (h0 : ds ≠ []) (h1 : ds.length ≤ 1000) (h2 : 2 ≤ k) (h3 : k ≤ 1000) : EvD K C (tOp (rRepT K) ta tb) σ H (.tup (List.replicate k ds).flatten) :=
  evd_op ha hb fun x y H1 e tx ty Q q => by
    obtain ⟨a, xs, rfl, hs, al⟩ := tx.tup'
    cases ty
    have hl := al.length
    refine ⟨a, (k : Int), xs, rfl, rfl, hs, ?_, by omega, by omega, by omega, fun p hp => q _ _ (Ex.new hp) (.tup (st_of upd_same) ?_)⟩
    · intro z; rw [z] at hl; simp at hl; exact h0 (List.length_eq_zero_iff.mp hl.symm)
    · rw [Int.toNat_natCast]
      have al' := al.ex (Ex.new (o := .tup (List.replicate (k : Int).toNat xs).flatten) hp)
      rw [Int.toNat_natCast] at al'
      generalize upd H1 p (.tup (List.replicate k xs).flatten) = H2 at al'
      clear h2 h3 hb q
      induction k with
      | zero => exact .nil
      | succ k ih =>
        rw [List.replicate_succ, List.replicate_succ, List.flatten_cons, List.flatten_cons]
        exact al'.app ih
end
theorem noL_sys (S : Sy) : noL (.sys S) = true := by simp [noL]
theorem ExV.back {K : PySem.W.Frag} {a : Addr} {H H1 H2 : Hp} (e : Ex H H1) (h : H a = none) (e' : ExV a H1 H2) : Ex H H2 := by
  obtain ⟨x, y, z, _, e'⟩ := e'
  exact (e.mut h).trans e'
section
variable {P : Program} {w : World} {K : PySem.W.Frag} {mg : Str → Option Value} {base : Heap} {C Pt fi : Addr} {fdi : FuncData}
/-! _law_right -/
abbrev s__law_right : Stmt := topS 68
theorem sc__law_right : FnScope ["_law_vat_here", "_law_letters", "_law_bonds", "_law_system_here", "_law_factors_here", "_law_word_here", "_law_state_here", "_law_due", "_law_other", "_law_few"] ["_law_vat_here"] (defScope s__law_right) := ⟨rfl, rfl, rfl, by decide +kernel, rfl, by decide +kernel, by decide +kernel⟩
def sp__law_right (Pt : Addr) (K : PySem.W.Frag) (C : Addr) : Sp := fun vs H Q _ => ∃ a : Addr, vs = [.ref a] ∧ VatAt H a ∧ Tab Pt H ∧ ∀ H', ExV a H H' → Q (.bl true) H'
theorem ok__law_right {f : Addr} {fd : FuncData} (F : Fun K "_law_right" "_law_right" s__law_right f fd) (T : Bt mg) (M : TM K mg C) (I : Ini P w K mg base C fi fdi) (c__law_system : Cl P w K mg base "_law_system" 3 (sp__law_system K C)) (c__law_factors : Cl P w K mg base "_law_factors" 1 (sp__law_factors K C))
    (c__law_word : Cl P w K mg base "_law_word" 2 (sp__law_word K C)) (c__law_taste : Cl P w K mg base "_law_taste" 2 (sp__law_taste K C)) (c__law_state : Cl P w K mg base "_law_state" 4 (sp__law_state K C)) (c__law_normal : Cl P w K mg base "_law_normal" 3 (sp__law_normal K C))
    (c_normal : Cl P w K mg base "normal" 8 (sp_normal Pt K C)) (c_length : Cl P w K mg base "length" 8 (sp_length Pt K C)) (c_is_shortest : Cl P w K mg base "is_shortest" 9 (sp_is_shortest Pt K C)) (c__law_grown : Cl P w K mg base "_law_grown" 2 (sp__law_grown K C))
    (c__law_can_be_less : Cl P w K mg base "_law_can_be_less" 5 (sp__law_can_be_less K C)) : FnOk P w K mg base CX0 10 f fd ["_law_vat_here"] (sp__law_right Pt K C) := by
  refine F.ok sc__law_right (fun vs H Q E ⟨a, h, _⟩ => by rw [h]; rfl) fun cdv A outer s H vs Q E hr h => ?_
  obtain ⟨a, rfl, v, tab, q⟩ := h
  have nd := sc__law_right.nd
  refine ⟨_, pss_cons (ps_asg (pe_cl c__law_system (hr.mono (by decide)) rfl (pa_cons (pv 0) pa_nil)) (pg_tup rfl (pgs_cons (pg_name (i := 1) nd rfl (Or.inl rfl)) (pgs_cons (pg_name (i := 2) nd rfl (Or.inl rfl)) pgs_nil))))
    (pss_cons (ps_par (i := 3) (j := 4) rfl nd rfl rfl (by decide) rfl rfl (pa_cons (pe_make I.mkk I.fn (hr.mono (by decide)) rfl M.System I.bd .nil pass0 (pa_cons (pv 1) (pa_cons (pv 2) pa_nil))) (pa_cons (pe_cl c__law_factors (hr.mono (by decide)) rfl (pa_cons (pv 1) (pa_cons (pv 2) pa_nil))) pa_nil)) (by rfl))
    (pss_cons (ps_set (i := 5) nd rfl (Or.inl rfl) (pe_cl c__law_word (hr.mono (by decide)) rfl (pa_cons (pv 0) (pa_cons (pv 1) (pa_cons (pe_cl c__law_taste (hr.mono (by decide)) rfl (pa_cons (pv 0) (pa_cons (pe_lst (pa_cons pe_int (pa_cons pe_int (pa_cons pe_int (pa_cons pe_int pa_nil))))) pa_nil))) pa_nil)))))
    (pss_cons (ps_set (i := 6) nd rfl (Or.inl rfl) (pe_cl c__law_state (hr.mono (by decide)) rfl (pa_cons (pv 4) (pa_cons (pv 5) pa_nil))))
    (pss_cons (ps_set (i := 7) nd rfl (Or.inl rfl) (pe_cl c__law_normal (hr.mono (by decide)) rfl (pa_cons (pv 4) (pa_cons (pv 6) pa_nil))))
    (pss_cons (ps_if (PW.pt (pw_or (pt_cmpR (op_neD (hu64 hr)) (pe_cl c_normal (hr.mono (by decide)) rfl (pa_cons (pv 3) (pa_cons (pv 5) pa_nil))) (pv 7) (nomark _)) (pw_or (pt_cmpR op_ne (pe_cl c_length (hr.mono (by decide)) rfl (pa_cons (pv 3) (pa_cons (pv 5) pa_nil))) (pe_callB call_len_seq (by rfl) T.len PySem.boot_len (pa_cons (pv 7) pa_nil)) (nomark _)) (pw_or1 (pt_cmpR op_ne (pe_op op_modN (pe_op op_sub (pe_callB call_len_seq (by rfl) T.len PySem.boot_len (pa_cons (pv 5) pa_nil)) (pe_callB call_len_seq (by rfl) T.len PySem.boot_len (pa_cons (pv 7) pa_nil))) pe_int) pe_int (nomark _)))))) (pss_one (ps_ret pe_bl)) (pss_nil))
    (pss_cons (ps_if (PW.pt (pw_or (pt_cmpR op_ne (pe_cl c_is_shortest (hr.mono (by decide)) rfl (pa_cons (pv 3) (pa_cons (pv 5) pa_nil))) (pe_cmpR op_eq (pe_callB call_len_seq (by rfl) T.len PySem.boot_len (pa_cons (pv 7) pa_nil)) (pe_callB call_len_seq (by rfl) T.len PySem.boot_len (pa_cons (pv 5) pa_nil)) (nomark _)) (nomark _)) (pw_or1 (pt_not (pt_val (pe_cl c_is_shortest (hr.mono (by decide)) rfl (pa_cons (pv 3) (pa_cons (pv 7) pa_nil)))))))) (pss_one (ps_ret pe_bl)) (pss_nil))
    (pss_cons (ps_if (pt_cmpR (op_neD (hu64 hr)) (pe_cl c_normal (hr.mono (by decide)) rfl (pa_cons (pv 3) (pa_cons (pv 7) pa_nil))) (pv 7) (nomark _)) (pss_one (ps_ret pe_bl)) (pss_nil))
    (pss_cons (ps_if (pt_cmpR (op_neD (hu64 hr)) (pe_cl c_normal (hr.mono (by decide)) rfl (pa_cons (pv 3) (pa_cons (pe_cl c__law_grown (hr.mono (by decide)) rfl (pa_cons (pv 0) (pa_cons (pv 1) (pa_cons (pv 5) pa_nil)))) pa_nil))) (pv 7) (nomark _)) (pss_one (ps_ret pe_bl)) (pss_nil))
    (pss_cons (ps_set (i := 8) nd rfl (Or.inl rfl) (pe_cl c__law_word (hr.mono (by decide)) rfl (pa_cons (pv 0) (pa_cons (pv 1) (pa_cons pe_int pa_nil)))))
    (pss_cons (ps_if (pt_cmpR op_ne (pe_cmpR (op_eqD (hu64 hr)) (pe_cl c_normal (hr.mono (by decide)) rfl (pa_cons (pv 3) (pa_cons (pv 8) pa_nil))) (pv 7) (nomark _)) (pe_cmpR (op_eqD (hu64 hr)) (pe_cl c__law_state (hr.mono (by decide)) rfl (pa_cons (pv 4) (pa_cons (pv 8) pa_nil))) (pv 6) (nomark _)) (nomark _)) (pss_one (ps_ret pe_bl)) (pss_nil))
    (pss_cons (ps_set (i := 9) nd rfl (Or.inl rfl) (pe_slice sl_tupA (pv 5) po_none (po_some pe_int)))
    (pss_one (ps_ret (pe_cmpR op_ne (pe_cl c_is_shortest (hr.mono (by decide)) rfl (pa_cons (pv 3) (pa_cons (pv 9) pa_nil))) (pe_cl c__law_can_be_less (hr.mono (by decide)) rfl (pa_cons (pv 4) (pa_cons (pv 9) pa_nil))) (nomark _))))))))))))))), ?_⟩
  refine do_seq ?_
  refine ⟨_, rfl, a, rfl, v, fun y n bs H1 hV e1 t => g_two t fun y1 y2 t1 t2 => ?_⟩
  cases t1
  have hF := facs_ok hV
  have X := facs_sys hV
  have W := hF.wf
  have hG := mkS_ok hV
  have hn1 := hV.n1
  have hn4 := hV.n4
  have rN : ∀ u, ok n u → u.length ≤ 40 → R_normal_in [.sys (mkS n bs), wordD u] (wordD (due n (facs n bs) u)) := fun u hu hl => ⟨mkS n bs, u, rfl, hG, hu, hl, rfl⟩
  have rL : ∀ u, ok n u → u.length ≤ 40 → R_length [.sys (mkS n bs), wordD u] (.int ((due n (facs n bs) u).length : Int)) := fun u hu hl => ⟨mkS n bs, u, rfl, hG, hu, hl, rfl⟩
  have rS : ∀ u, ok n u → u.length ≤ 40 → R_is_shortest_in [.sys (mkS n bs), wordD u] (.bl (decide ((due n (facs n bs) u).length = u.length))) := fun u hu hl => ⟨mkS n bs, u, rfl, hG, hu, hl, rfl⟩
  have hSn : (mkS n bs).n = n := rfl
  generalize hS : mkS n bs = S at *
  have fl1 : ∀ u, flatD 1 (wordD u) = true := flat_word
  -- System(..), _law_factors(..)
  dsimp only
  refine do_seq (par2 ?_)
  refine evd_make (K := K) (C := C) (eds_cons (evd_var rfl (.int (n : Int))) (eds_cons (evd_var rfl t2) eds_nil)) hV H1 (Ex.refl _) _ fun ys H2 e2 tS0 => ?_
  rw [hS] at tS0
  refine ⟨_, rfl, _, rfl, n, bs, .cons (.int (n : Int)) (.cons (t2.ex e2) .nil), hV, fun p as H4 hp has e4 m4 => ⟨_, _, rfl, ?_⟩⟩
  have v2 : VatAt H2 a := e1.at.ex e2
  have v4 : VatAt H4 a := v2.ex e4
  have hap : a ≠ p := vat_ne v2 hp
  have haA : a ∉ as := fun z => by
    have := has a z
    obtain ⟨x, y, z', hh⟩ := v2
    rw [this] at hh; cases hh
  have tS4 := tS0.ex e4
  have tab4 : Tab Pt H4 := (tab.exv v e1).ex (e2.trans e4)
  have x04 : ExV a H H4 := e1.ex (e2.trans e4)
  -- the word
  refine do_seq ?_
  refine ⟨_, rfl, _, rfl, taste_run v4 rfl (evn_lst (K := K) (C := C) (eds_cons evd_int (eds_cons evd_int (eds_cons evd_int (eds_cons evd_int eds_nil)))) (by simp)) (by simp) (by simp) (by simp) fun z d H5 hd e5 tz => ?_⟩
  obtain ⟨k, hk, rfl⟩ : ∃ k : Nat, k ≤ 40 ∧ d = .int (k : Int) := by
    simp only [List.mem_cons, List.not_mem_nil, or_false] at hd
    rcases hd with h | h | h | h
    · exact ⟨4, by omega, h⟩
    · exact ⟨8, by omega, h⟩
    · exact ⟨14, by omega, h⟩
    · exact ⟨40, by omega, h⟩
  cases tz
  refine ⟨a, n, k, rfl, e5.at, by omega, by omega, by omega, fun y5 u H6 hu hul0 e6 tw => ?_⟩
  have hul : u.length ≤ 40 := by omega
  have e46 := e5.trans e6
  have tS6 := tS4.exv (noL_sys S) v4 e46
  have m6 := m4.exv hap haA v4 e46
  have tab6 := tab4.exv v4 e46
  have x06 := x04.trans e46
  -- its state, its normal word
  refine do_seq (do_set (K := K) (C := C) (evd_call (eds_cons (evd_var rfl m6.tp) (eds_cons (evd_var rfl tw) eds_nil)) ⟨goldB bs, n, facs n bs, u, rfl, hF, hu, by omega, rfl⟩) fun y6 H7 e7 t6 => ?_)
  refine do_seq (do_set (K := K) (C := C) (evd_call (eds_cons (evd_var rfl (m6.ex e7).tp) (eds_cons (evd_var rfl t6) eds_nil)) ⟨goldB bs, n, facs n bs, u, rfl, hF, X, hu, hul, rfl⟩) fun y7 H8 e8 t7 => ?_)
  have hdl := due_len_le W X hu (by omega)
  have hdp := due_parity W X hu (by omega)
  have hdd := due_due W X hu (by omega)
  have hdok := (due_spec W X hu (by omega)).2.1
  have hSh := shortest_iff W X hu (by omega)
  have hEq := fun u2 (h2 : ok n u2) (hl : u2.length ≤ 100) => due_eq_iff W X hu (by omega) h2 hl
  have hgr := fun u' (h : stateL n (facs n bs) u' = stateL n (facs n bs) u) => due_congr h
  have hSh2 := fun u2 (h2 : ok n u2) (hl : u2.length ≤ 100) => shortest_iff W X h2 hl
  generalize hdd0 : due n (facs n bs) u = dd at *
  have e68 := e7.trans e8
  have lenu : (u.map fun (a : Nat) => Dt.int (a : Int)).length = u.length := by simp
  have lend : (dd.map fun (a : Nat) => Dt.int (a : Int)).length = dd.length := by simp
  have rNu := rN u hu hul
  have rLu := rL u hu hul
  have rSu := rS u hu hul
  have rNd := rN dd hdok (by omega)
  have rSd := rS dd hdok (by omega)
  rw [hdd0] at rNu rLu rSu
  rw [hdd] at rNd rSd
  -- normal, length, parity
  have tS8 := tS6.ex e68
  have tw8 := tw.ex e68
  have tab8 := tab6.ex e68
  refine do_seq (do_if (b := (!true || (!decide ((dd.length : Int) = (dd.length : Int)) || !decide (((u.length : Int) - (dd.length : Int)).fmod 2 = 0)))) (et_or (evt_test (K := K) (C := C) (evd_neD (c := true) (evd_callT tab8 (eds_cons (evd_var rfl tS8) (eds_cons (evd_var rfl tw8) eds_nil)) rNu) (evd_var rfl t7) 1 (by decide) (fl1 _) (fl1 _) (by simp))) fun _ =>
    et_or (evt_test (K := K) (C := C) (evd_neI (evd_callT tab8 (eds_cons (evd_var rfl tS8) (eds_cons (evd_var rfl tw8) eds_nil)) rLu) ((evd_lenT (evd_var rfl t7)).to (by rw [lend])))) fun _ => evt_test (K := K) (C := C) (evd_neI (evd_modN (evd_sub ((evd_lenT (evd_var rfl tw8)).to (by rw [lenu])) ((evd_lenT (evd_var rfl t7)).to (by rw [lend]))) evd_int (by decide)) evd_int)) (fun h => ?_) fun _ H9 e9 => ?_)
  · rw [Int.fmod_eq_emod_of_nonneg _ (by decide), hdp] at h
    simp at h
  -- is_shortest
  have tS9 := tS8.ex e9
  have tw9 := tw8.ex e9
  have tab9 := tab8.ex e9
  have t79 := t7.ex e9
  refine do_seq (do_if (b := (!decide (decide (dd.length = u.length) = decide ((dd.length : Int) = (u.length : Int))) || !decide (dd.length = dd.length))) (et_or (evt_test (K := K) (C := C) (evd_neB (evd_callT tab9 (eds_cons (evd_var rfl tS9) (eds_cons (evd_var rfl tw9) eds_nil)) rSu) (evd_eqI ((evd_lenT (evd_var rfl t79)).to (by rw [lend])) ((evd_lenT (evd_var rfl tw9)).to (by rw [lenu]))))) fun _ =>
    et_not (evt_B (evd_callT tab9 (eds_cons (evd_var rfl tS9) (eds_cons (evd_var rfl t79) eds_nil)) rSd))) (fun h => ?_) fun _ H10 e10 => ?_)
  · have : decide ((dd.length : Int) = (u.length : Int)) = decide (dd.length = u.length) := by
      rw [Bool.eq_iff_iff, decide_eq_true_eq, decide_eq_true_eq]; omega
    rw [this] at h
    simp at h
  -- normal(due)
  have tS10 := tS9.ex e10
  have tw10 := tw9.ex e10
  have tab10 := tab9.ex e10
  have t710 := t79.ex e10
  refine do_seq (do_if (b := !true) (evt_test (K := K) (C := C) (evd_neD (c := true) (evd_callT tab10 (eds_cons (evd_var rfl tS10) (eds_cons (evd_var rfl t710) eds_nil)) rNd) (evd_var rfl t710) 1 (by decide) (fl1 _) (fl1 _) (by simp))) (fun h => absurd h (by decide)) fun _ H11 e11 => ?_)
  -- normal(grown)
  have tS11 := tS10.ex e11
  have tw11 := tw10.ex e11
  have tab11 := tab10.ex e11
  have t711 := t710.ex e11
  have e611 := ((e68.trans e9).trans e10).trans e11
  have x011 := x06.ex e611
  have v11 := x011.at
  refine do_seq ?_
  refine ⟨_, rfl, _, rfl, _, rfl, _, rfl, a, n, u, y5, rfl, tw11, v11, by omega, by omega, hu, hul, fun yg u' H12 hu' hul' hg e12 tg => ?_⟩
  have tS12 := tS11.exv (noL_sys S) v11 e12
  have tab12 := tab11.exv v11 e12
  have tw12 := tw11.exv noL_wordD v11 e12
  have t712 := t711.exv noL_wordD v11 e12
  have m12 := (m6.ex e611).exv hap haA v11 e12
  have t612 := (t6.ex (((e8.trans e9).trans e10).trans e11)).exv noL_stD v11 e12
  refine ⟨tab12, _, _, .cons tS12 (.cons tg .nil), rN u' hu' hul', fun z H13 e13 tz => ⟨_, rfl, neD_run (c := true) tz (t712.ex e13) 1 (by decide) (fl1 _) (fl1 _) ?_ ⟨_, rfl, iteF ?_⟩⟩⟩
  · rw [wordD_inj, hgr u' (hg (facs n bs) W X)]; simp
  unfold tNext
  dsimp only
  have x012 := x011.trans e12
  have x013 := x012.ex e13
  have v13 := x013.at
  have tab13 := tab12.ex e13
  -- another word
  refine do_seq ?_
  refine ⟨_, rfl, _, rfl, a, n, 6, rfl, v13, by omega, by omega, by omega, fun y8 u2 H14 hu2 hul2 e14 tw2 => ?_⟩
  have tS14 := (tS12.ex e13).exv (noL_sys S) v13 e14
  have tab14 := tab13.exv v13 e14
  have tw14 := (tw12.ex e13).exv noL_wordD v13 e14
  have t714 := (t712.ex e13).exv noL_wordD v13 e14
  have m14 := (m12.ex e13).exv hap haA v13 e14
  have t614 := (t612.ex e13).exv noL_stD v13 e14
  have x014 := x013.trans e14
  have hq := hEq u2 hu2 (by omega)
  refine do_seq (do_if (b := !decide (decide (due n (facs n bs) u2 = dd) = decide (stateL n (facs n bs) u2 = stateL n (facs n bs) u))) (evt_test (K := K) (C := C) (evd_neB (evd_eqD (c := decide (due n (facs n bs) u2 = dd)) (evd_callT tab14 (eds_cons (evd_var rfl tS14) (eds_cons (evd_var rfl tw2) eds_nil)) (rN u2 hu2 (by omega))) (evd_var rfl t714) 1 (by decide) (fl1 _) (fl1 _) (by rw [decide_eq_true_eq, wordD_inj]))
    (evd_eqD (c := decide (stateL n (facs n bs) u2 = stateL n (facs n bs) u)) (evd_call (eds_cons (evd_var rfl m14.tp) (eds_cons (evd_var rfl tw2) eds_nil)) ⟨goldB bs, n, facs n bs, u2, rfl, hF, hu2, by omega, rfl⟩) (evd_var rfl t614) 3 (by decide) (flat_st _) (flat_st _) (by rw [decide_eq_true_eq, stD_inj])))) (fun h => ?_) fun _ H15 e15 => ?_)
  · have : decide (due n (facs n bs) u2 = dd) = decide (stateL n (facs n bs) u2 = stateL n (facs n bs) u) := by
      rw [Bool.eq_iff_iff, decide_eq_true_eq, decide_eq_true_eq]; exact hq
    rw [this] at h
    simp at h
  -- few letters
  have hfok : ok n (u.take 7) := fun x hx => hu x (List.mem_of_mem_take hx)
  have hfl : (u.take 7).length ≤ 40 := by rw [List.length_take]; omega
  refine do_seq (do_set (K := K) (C := C) (d := wordD (u.take 7)) ((evd_sl (evd_var rfl (tw14.ex e15)) evp_none (evp_int (i := 7))).to (by
    rw [show (7 : Int) = ((7 : Nat) : Int) from rfl, cutD_take]
    unfold wordD
    rw [List.map_take])) fun y9 H16 e16 t9 => ?_)
  have e1416 := e15.trans e16
  have hs7 := hSh2 (u.take 7) hfok (by omega)
  have rS7 := rS (u.take 7) hfok hfl
  generalize hfw : u.take 7 = fw at *
  refine do_ret (K := K) (C := C) (d := .bl true) ((evd_neB (a := decide ((due n (facs n bs) fw).length = fw.length)) (b := !decide ((due n (facs n bs) fw).length = fw.length)) (evd_callT (tab14.ex e1416) (eds_cons (evd_var rfl (tS14.ex e1416)) (eds_cons (evd_var rfl t9) eds_nil)) rS7) (evd_call (eds_cons (evd_var rfl (m14.ex e1416).tp) (eds_cons (evd_var rfl t9) eds_nil)) ⟨goldB bs, n, facs n bs, fw, _, rfl, hF, hfok, hfl, rfl, ?_⟩)).to ?_) fun z H17 e17 tz => ?_
  · cases decide ((due n (facs n bs) fw).length = fw.length) <;> rfl
  · cases tz
    exact q H17 ((x014.ex e1416).ex e17)
  · rw [Bool.not_eq_true', decide_eq_false_iff_not, hs7]
    exact Classical.not_not
end
end UW
namespace UW
open PySem PySem.Spec PyProof.Rows L2 Evl StX SlX ClX RZ
/-! the examples that the law names -/
theorem ex1 : due 3 (facs 3 b4) [2, 0] = [0, 2] := by decide +kernel
theorem ex2 : due 3 (facs 3 b4) [1, 0, 1, 1] = [1, 0] := by decide +kernel
theorem ex3 : (due 2 (facs 2 bsq) [0, 1, 0, 1, 0]).length = 3 := by decide +kernel
theorem ex4 : due 2 (facs 2 b6) (List.replicate 6 [1, 0]).flatten = [] := by decide +kernel
theorem ex5 : (due 3 (facs 3 b4) [1, 2, 1]).length = 3 := by decide +kernel
theorem ex6 : (due 3 (facs 3 b4) [1, 1]).length = 0 := by decide +kernel
theorem ex7 : (due 2 (facs 2 b0) (List.replicate 20 [0, 1]).flatten).length = 40 := by decide +kernel
theorem ok_of {n : Nat} {u : List Nat} (h : u.all (fun a => decide (a < n)) = true) : ok n u := fun a ha => by
  have := List.all_eq_true.mp h a ha
  exact of_decide_eq_true this
theorem tup_word (u : List Nat) : Dt.tup (u.map fun (a : Nat) => Dt.int (a : Int)) = wordD u := rfl
theorem mkS_eq {n : Nat} {bs : List Bo} (hV : VB n bs) : SyG (mkS n bs) := mkS_ok hV
section
variable {P : Program} {w : World} {K : PySem.W.Frag} {mg : Str → Option Value} {base : Heap} {C Pt fi : Addr} {fdi : FuncData}
theorem rN_of {n : Nat} {bs : List Bo} (hV : VB n bs) {u : List Nat} (hu : ok n u) (hl : u.length ≤ 40) : R_normal_in [.sys (mkS n bs), wordD u] (wordD (due n (facs n bs) u)) := ⟨mkS n bs, u, rfl, mkS_ok hV, hu, hl, rfl⟩
theorem rL_of {n : Nat} {bs : List Bo} (hV : VB n bs) {u : List Nat} (hu : ok n u) (hl : u.length ≤ 40) : R_length [.sys (mkS n bs), wordD u] (.int ((due n (facs n bs) u).length : Int)) := ⟨mkS n bs, u, rfl, mkS_ok hV, hu, hl, rfl⟩
theorem rS_of {n : Nat} {bs : List Bo} (hV : VB n bs) {u : List Nat} (hu : ok n u) (hl : u.length ≤ 40) : R_is_shortest_in [.sys (mkS n bs), wordD u] (.bl (decide ((due n (facs n bs) u).length = u.length))) := ⟨mkS n bs, u, rfl, mkS_ok hV, hu, hl, rfl⟩
/-- a word written out -/
theorem evd_w1 {σ : L2.St} {H : Hp} {ta : TA} {u : List Nat} (h : EvDs K C ta σ H (u.map fun (a : Nat) => Dt.int (a : Int))) (hl : u.length ≤ 100000) : EvD K C (tTup ta) σ H (wordD u) := evd_tup h (by simpa using hl)
abbrev s_law : Stmt := topS 69
theorem sc_law : FnScope ["_law_script", "_law_spot", "_law_vat_here", "_law_turn", "_law_four", "_law_square", "_law_told"] ["_law_script"] (defScope s_law) := ⟨rfl, rfl, rfl, by decide +kernel, rfl, by decide +kernel, by decide +kernel⟩
def sp_law (Pt : Addr) (K : PySem.W.Frag) (C : Addr) : Sp := fun vs H Q _ => ∃ (s : Addr) (ns : List Int), vs = [.ref s] ∧ SqL K H s (ns.map V.int) ∧ Tab Pt H ∧ ∀ H', Q (.bl true) H'
theorem ok_law {f : Addr} {fd : FuncData} {mc : Value} {p1 p2 p3 p4 g1 g2 g3 g4 : Addr} (F : Fun K "law" "law" s_law f fd) (T : Bt mg) (M : TM K mg C) (c__law_vat : Cl P w K mg base "_law_vat" 1 (sp__law_vat K C)) (c__law_right : Cl P w K mg base "_law_right" 10 (sp__law_right Pt K C))
    (c_normal : Cl P w K mg base "normal" 8 (sp_normal Pt K C)) (c_length : Cl P w K mg base "length" 8 (sp_length Pt K C)) (c_is_shortest : Cl P w K mg base "is_shortest" 9 (sp_is_shortest Pt K C))
    (rd : CRead K C mc) (cm_rows : CMet K C mc "rows" p1 g1 ∧ FnR P w K mg base CX0 7 g1 (spCM K C 4 3 b4)) (cm_signed : CMet K C mc "signed" p2 g2 ∧ FnR P w K mg base CX0 7 g2 (spCM K C 2 2 bsq))
    (cm_polygon : CMet K C mc "polygon" p3 g3 ∧ FnR P w K mg base CX0 7 g3 (spCM K C 6 2 b6)) (cm_ring : CMet K C mc "ring" p4 g4 ∧ FnR P w K mg base CX0 7 g4 (spCM K C 2 2 b0)) : FnOk P w K mg base CX0 11 f fd ["_law_script"] (sp_law Pt K C) := by
  refine F.ok sc_law (fun vs H Q E ⟨s, ns, h, _⟩ => by rw [h]; rfl) fun cdv A outer s H vs Q E hr h => ?_
  obtain ⟨sc, ns, rfl, hs, tab, q⟩ := h
  let sp_rows := spCM K C 4 3 b4
  let sp_signed := spCM K C 2 2 bsq
  let sp_polygon := spCM K C 6 2 b6
  let sp_ring := spCM K C 2 2 b0
  have nd := sc_law.nd
  refine ⟨_, pss_cons (ps_for PassesOwn.never rfl (pi_range1 (by rfl) T.range (pa_cons (pe_callB (call_max2 rfl) (by rfl) T.max (by decide +kernel) (pa_cons pe_int (pa_cons (pe_callB (call_min2 rfl) (by rfl) T.min (by decide +kernel) (pa_cons pe_int (pa_cons (pe_callB call_len_seq (by rfl) T.len PySem.boot_len (pa_cons (pv 0) pa_nil)) pa_nil))) pa_nil))) pa_nil)) (pg_name (i := 1) nd rfl (Or.inl rfl)) (pss_cons (ps_set (i := 2) nd rfl (Or.inl rfl) (pe_cl c__law_vat (hr.mono (by decide)) rfl (pa_cons (pv 0) (pa_cons (pv 1) pa_nil))))
    (pss_one (ps_for PassesOwn.never rfl (pi_range1 (by rfl) T.range (pa_cons pe_int pa_nil)) (pg_name (i := 3) nd rfl (Or.inl rfl)) (pss_one (ps_if (pt_not (pt_val (pe_cl c__law_right (hr.mono (by decide)) rfl (pa_cons (pv 2) pa_nil)))) (pss_one (ps_ret pe_bl)) (pss_nil)))))))
    (pss_cons (ps_par (i := 4) (j := 5) rfl nd rfl rfl (by decide) rfl rfl (pa_cons (pe_cmeth (pe_glob (v := .ref C) rfl M.System rfl) rd cm_rows.1 cm_rows.2 (hr.mono (by decide)) pass0 (pa_cons pe_int pa_nil)) (pa_cons (pe_cmeth (pe_glob (v := .ref C) rfl M.System rfl) rd cm_signed.1 cm_signed.2 (hr.mono (by decide)) pass0 (pa_cons pe_int pa_nil)) pa_nil)) (by rfl))
    (pss_cons (ps_set (i := 6) nd rfl (Or.inl rfl) (pe_lst (pa_cons (pe_cl c_normal (hr.mono (by decide)) rfl (pa_cons (pv 4) (pa_cons (pe_tup (pa_cons pe_int (pa_cons pe_int pa_nil))) pa_nil))) (pa_cons (pe_cl c_normal (hr.mono (by decide)) rfl (pa_cons (pv 4) (pa_cons (pe_tup (pa_cons pe_int (pa_cons pe_int (pa_cons pe_int (pa_cons pe_int pa_nil))))) pa_nil))) (pa_cons (pe_cl c_length (hr.mono (by decide)) rfl (pa_cons (pv 5) (pa_cons (pe_tup (pa_cons pe_int (pa_cons pe_int (pa_cons pe_int (pa_cons pe_int (pa_cons pe_int pa_nil)))))) pa_nil))) pa_nil)))))
    (pss_cons (ps_if (PW.pt (pw_or (pt_cmpR (op_neD (hu64 hr)) (pv 6) (pe_lst (pa_cons (pe_tup (pa_cons pe_int (pa_cons pe_int pa_nil))) (pa_cons (pe_tup (pa_cons pe_int (pa_cons pe_int pa_nil))) (pa_cons pe_int pa_nil)))) (nomark _)) (pw_or1 (pt_cmpR (op_neD (hu64 hr)) (pe_cl c_normal (hr.mono (by decide)) rfl (pa_cons (pe_cmeth (pe_glob (v := .ref C) rfl M.System rfl) rd cm_polygon.1 cm_polygon.2 (hr.mono (by decide)) pass0 (pa_cons pe_int pa_nil)) (pa_cons (pe_op op_repT (pe_tup (pa_cons pe_int (pa_cons pe_int pa_nil))) pe_int) pa_nil))) (pe_tup pa_nil) (nomark _))))) (pss_one (ps_ret pe_bl)) (pss_nil))
    (pss_one (ps_ret (pe_and (pe_cl c_is_shortest (hr.mono (by decide)) rfl (pa_cons (pv 4) (pa_cons (pe_tup (pa_cons pe_int (pa_cons pe_int (pa_cons pe_int pa_nil)))) pa_nil))) (pe_and (pe_not (pe_cl c_is_shortest (hr.mono (by decide)) rfl (pa_cons (pv 4) (pa_cons (pe_tup (pa_cons pe_int (pa_cons pe_int pa_nil))) pa_nil)))) (pe_one (pe_cmpR op_eq (pe_cl c_length (hr.mono (by decide)) rfl (pa_cons (pe_cmeth (pe_glob (v := .ref C) rfl M.System rfl) rd cm_ring.1 cm_ring.2 (hr.mono (by decide)) pass0 (pa_cons pe_int pa_nil)) (pa_cons (pe_op op_repT (pe_tup (pa_cons pe_int (pa_cons pe_int pa_nil))) pe_int) pa_nil))) pe_int (nomark _)))))))))), ?_⟩
  have ts : ∀ H', Ex H H' → Tp K C H' (.ref sc) (.lst (ns.map Dt.int)) := fun H' e => .lst (ex_l e hs) (TpAll.ofInts ns)
  obtain ⟨c, hc4, hc⟩ : ∃ c : Nat, c ≤ 4 ∧ (if (if ((ns.map Dt.int).length : Int) < 4 then ((ns.map Dt.int).length : Int) else 4) > 1 then (if ((ns.map Dt.int).length : Int) < 4 then ((ns.map Dt.int).length : Int) else 4) else 1) = (c : Int) := by
    generalize (ns.map Dt.int).length = m
    by_cases h : (m : Int) < 4
    · rw [if_pos h]
      by_cases h2 : (m : Int) > 1
      · rw [if_pos h2]; exact ⟨m, by omega, rfl⟩
      · rw [if_neg h2]; exact ⟨1, by omega, rfl⟩
    · rw [if_neg h, if_pos (by decide)]; exact ⟨4, by omega, rfl⟩
  refine do_seq (do_for (K := K) (C := C) (ds := rngD 0 c) (H' := H) (evi_rng1 (eds_cons ((evd_max2 evd_int (evd_min2 evd_int (evd_lenL (evd_var rfl (ts H (Ex.refl _)))))).to (by rw [hc])) eds_nil) (by omega)) (Ex.refl _)
    (fun i σ H' => Ex H H' ∧ ∃ o1 o2 o3 : Option V, σ = [some (.ref sc), o1, o2, o3, none, none, none]) (fun H2 e2 => ⟨e2, none, none, none, rfl⟩) (fun k σ2 H2 z => z.1) ?_ ?_)
  · rintro i d x σ2 H2 H3 hd ⟨e2, o1, o2, o3, rfl⟩ e3 tx
    have hi : i < c := by
      have := (List.getElem?_eq_some_iff.mp hd).1
      rwa [rngD_len] at this
    rw [rngD_get hi, Int.zero_add] at hd
    cases hd
    cases tx
    have e23 := e2.trans e3
    refine do_seq ?_
    refine ⟨_, rfl, _, rfl, sc, ns, i, rfl, ex_l e23 hs, fun p H4 hp e4 v4 => ?_⟩
    have hpH : H p = none := fresh_back e23 hp
    refine ⟨2, rfl, by omega, by omega, ?_⟩
    refine for_range (lo := 0) (n := 2) (fun j σ H' => Ex H H' ∧ VatAt H' p ∧ ∃ o3 : Option V, σ = [some (.ref sc), some (.int (i : Int)), some (.ref p), o3, none, none, none]) ⟨e23.trans e4, v4, o3, rfl⟩ ?_ ?_
    · rintro j σ H' hj ⟨e, v, o3, rfl⟩
      refine ⟨_, rfl, p, rfl, v, tab.ex e, fun H5 e5 => ⟨_, rfl, iteF ?_⟩⟩
      exact ⟨ExV.back (K := K) e hpH e5, e5.at, _, rfl⟩
    · rintro σ H' ⟨e, v, o3, rfl⟩
      exact ⟨e, _, _, _, rfl⟩
  · rintro σ2 H2 ⟨e2, o1, o2, o3, rfl⟩
    have tab2 := tab.ex e2
    dsimp only
    refine do_seq (do_par (K := K) (C := C) (eds_cons (evd_cm (n := 3) (bs := b4) (eds_cons evd_int eds_nil)) (eds_cons (evd_cm (n := 2) (bs := bsq) (eds_cons evd_int eds_nil)) eds_nil)) fun x4 x5 H3 e3 t4 t5 => ?_)
    have tab3 := tab2.ex e3
    refine do_seq (do_setN (K := K) (C := C) (ds := [wordD [0, 2], wordD [1, 0], .int 3]) (evn_lst (eds_cons ((evd_callT tab3 (eds_cons (evd_var rfl t4) (eds_cons (evd_w1 (u := [2, 0]) (eds_cons evd_int (eds_cons evd_int eds_nil)) (by simp)) eds_nil)) (rN_of vb4 (ok_of rfl) (by simp))).to (by rw [ex1])) (eds_cons ((evd_callT tab3 (eds_cons (evd_var rfl t4) (eds_cons (evd_w1 (u := [1, 0, 1, 1]) (eds_cons evd_int (eds_cons evd_int (eds_cons evd_int (eds_cons evd_int eds_nil)))) (by simp)) eds_nil)) (rN_of vb4 (ok_of rfl) (by simp))).to (by rw [ex2]))
      (eds_cons ((evd_callT tab3 (eds_cons (evd_var rfl t5) (eds_cons (evd_w1 (u := [0, 1, 0, 1, 0]) (eds_cons evd_int (eds_cons evd_int (eds_cons evd_int (eds_cons evd_int (eds_cons evd_int eds_nil))))) (by simp)) eds_nil)) (rL_of vbsq (ok_of rfl) (by simp))).to (by rw [ex3]; rfl)) eds_nil))) (by simp)) fun p xs H4 hp e4 hx al => ?_)
    have tab4 := tab3.ex e4
    have t44 := t4.ex e4
    refine do_seq (do_if (b := (!true || !true)) (et_or (evt_test (K := K) (C := C) (evd_neD (c := true) (evd_var rfl (.lst (sq_of hx) al)) (evd_of_n (evn_lst (eds_cons (evd_w1 (u := [0, 2]) (eds_cons evd_int (eds_cons evd_int eds_nil)) (by simp)) (eds_cons (evd_w1 (u := [1, 0]) (eds_cons evd_int (eds_cons evd_int eds_nil)) (by simp)) (eds_cons evd_int eds_nil))) (by simp))) 2 (by decide) (by rfl) (by rfl) (by simp))) fun _ =>
      evt_test (K := K) (C := C) (evd_neD (c := true) (d := wordD []) (dx := wordD []) ((evd_callT tab4 (eds_cons (evd_cm (n := 2) (bs := b6) (eds_cons evd_int eds_nil)) (eds_cons ((evd_repT (k := 6) (evd_w1 (u := [1, 0]) (eds_cons evd_int (eds_cons evd_int eds_nil)) (by simp)) (evd_int (i := 6)) (by simp) (by simp) (by omega) (by omega)).to (dx := wordD (List.replicate 6 [1, 0]).flatten) rfl) eds_nil)) (rN_of vb6 (ok_of rfl) (by decide))).to (by rw [ex4])) (evd_w1 (u := []) eds_nil (by simp)) 1 (by decide) (by rfl) (by rfl) (by simp))) (fun h => absurd h (by decide)) fun _ H5 e5 => ?_)
    have tab5 := tab4.ex e5
    have t45 := t44.ex e5
    exact do_ret (K := K) (C := C) (d := .bl true) ((evd_andV (a := true) ((evd_callT tab5 (eds_cons (evd_var rfl t45) (eds_cons (evd_w1 (u := [1, 2, 1]) (eds_cons evd_int (eds_cons evd_int (eds_cons evd_int eds_nil))) (by simp)) eds_nil)) (rS_of vb4 (ok_of rfl) (by simp))).to (by rw [ex5]; rfl)) fun _ =>
      evd_andV (evd_notV (a := false) ((evd_callT tab5 (eds_cons (evd_var rfl t45) (eds_cons (evd_w1 (u := [1, 1]) (eds_cons evd_int (eds_cons evd_int eds_nil)) (by simp)) eds_nil)) (rS_of vb4 (ok_of rfl) (by simp))).to (by rw [ex6]; rfl))) fun _ =>
      evd_eqI (i := 40) (j := 40) ((evd_callT tab5 (eds_cons (evd_cm (n := 2) (bs := b0) (eds_cons evd_int eds_nil)) (eds_cons ((evd_repT (k := 20) (evd_w1 (u := [0, 1]) (eds_cons evd_int (eds_cons evd_int eds_nil)) (by simp)) (evd_int (i := 20)) (by simp) (by simp) (by omega) (by omega)).to (dx := wordD (List.replicate 20 [0, 1]).flatten) rfl) eds_nil)) (rL_of vb0 (ok_of rfl) (by decide))).to (by rw [ex7]; rfl)) evd_int).to rfl) fun v H6 e6 t => by cases t; exact q H6
end
end UW
namespace UW
open PySem PySem.Spec PyProof.Rows L2 Evl StX SlX ClX RZ
/-! ### values that stand in the written part -/
def tpB (K : PySem.W.Frag) : Nat → Value → Dt → Bool
  | _, .int i _, .int j => decide (i = j)
  | n + 1, .ref a, .tup ds => (match K.lookup a with
    | some ⟨.type c, _, .seq its _, _⟩ => decide (c = "tuple") && (decide (its.size ≤ sizeLine) && (decide (its.toList.length = ds.length) && (its.toList.zip ds).all fun p => tpB K n p.1 p.2))
    | _ => false)
  | _, _, _ => false
section
variable {K : PySem.W.Frag} {C : Addr}
theorem tps_ok {n : Nat} (ih : ∀ {u : Value} {d : Dt}, tpB K n u d = true → ∃ v, L2.RelV v u ∧ ∀ H, Tp K C H v d) : ∀ (us : List Value) (ds : List Dt), us.length = ds.length → (us.zip ds).all (fun p => tpB K n p.1 p.2) = true → ∃ vs, Vals vs us ∧ ∀ H, TpAll K C H vs ds
  | [], [], _, _ => ⟨[], .nil, fun _ => .nil⟩
  | u :: us, d :: ds, hl, h => by
    simp only [List.zip_cons_cons, List.all_cons, Bool.and_eq_true] at h
    obtain ⟨v, r, t⟩ := ih h.1
    obtain ⟨vs, rs, ts⟩ := tps_ok ih us ds (by simpa using hl) h.2
    exact ⟨v :: vs, .cons r rs, fun H => .cons (t H) (ts H)⟩
  | [], d :: ds, hl, _ => by simp at hl
  | u :: us, [], hl, _ => by simp at hl
theorem tpB_ok : ∀ (n : Nat) {u : Value} {d : Dt}, tpB K n u d = true → ∃ v, L2.RelV v u ∧ ∀ H, Tp K C H v d := by
  intro n
  induction n with
  | zero =>
    intro u d h
    unfold tpB at h
    split at h
    · have := of_decide_eq_true h
      subst this
      exact ⟨.int _, ⟨_, rfl⟩, fun H => .int _⟩
    · simp_all
    · cases h
  | succ n ih =>
    intro u d h
    unfold tpB at h
    split at h
    · have := of_decide_eq_true h
      subst this
      exact ⟨.int _, ⟨_, rfl⟩, fun H => .int _⟩
    · rename_i m a ds e
      have e' : m = n := by omega
      subst e'
      split at h
      · rename_i c od its k sl q
        simp only [Bool.and_eq_true, decide_eq_true_eq] at h
        obtain ⟨h1, h2, h3, h4⟩ := h
        obtain ⟨vs, rs, ts⟩ := tps_ok ih _ _ h3 h4
        exact ⟨.ref a, rfl, fun H => .tup (xs := vs) (.inr ⟨_, its, k, q, congrArg Value.type h1, rfl, h2, rs⟩) (ts H)⟩
      · cases h
    · cases h
end
/-! ### a dict of the module with int keys -/
def kiE (e : DictEntry) : Option (Int × Value) := match e.key with
  | .int k _ => if e.hash = hashInt k then some (k, e.val) else none
  | _ => none
def kiL (K : PySem.W.Frag) (d : Addr) : List (Int × Value) := match K.lookup d with
  | some ⟨_, _, .dict es _, _⟩ => es.toList.filterMap kiE
  | _ => []
def kiB (K : PySem.W.Frag) (d : Addr) : Bool := match K.lookup d with
  | some ⟨.type c, none, .dict es _, sl⟩ => decide (c = "dict") && (sl.isEmpty && (!(d == sysModules) && (es.toList.all (fun e => (kiE e).isSome) && decide ((es.toList.filterMap kiE).map (·.1)).Nodup)))
  | _ => false
theorem entB_of : ∀ (es : List DictEntry), es.all (fun e => (kiE e).isSome) = true → entB es (es.filterMap kiE)
  | [], _ => trivial
  | e :: es, h => by
    simp only [List.all_cons, Bool.and_eq_true] at h
    obtain ⟨h1, h2⟩ := h
    have ih := entB_of es h2
    cases hk : kiE e with
    | none => rw [hk] at h1; cases h1
    | some kv =>
      rw [List.filterMap_cons, hk]
      unfold kiE at hk
      split at hk
      · rename_i k t q
        split at hk
        · rename_i hh
          cases hk
          exact ⟨⟨t, q⟩, hh, rfl, ih⟩
        · cases hk
      · cases hk
theorem kiB_ok {K : PySem.W.Frag} {d : Addr} (h : kiB K d = true) : KIDict K d (kiL K d) := by
  unfold kiB at h
  split at h
  · rename_i c es n sl q
    simp only [Bool.and_eq_true, decide_eq_true_eq] at h
    obtain ⟨h1, h2, h3, h4, h5⟩ := h
    have e2 : sl = #[] := Array.isEmpty_iff.mp h2
    subst h1 e2
    have ek : kiL K d = es.toList.filterMap kiE := by unfold kiL; rw [q]
    rw [ek]
    exact ⟨⟨es, n, q, entB_of _ h4⟩, by simpa using h3, h5⟩
  · cases h
def facB (K : PySem.W.Frag) : Bool := kiB K (He.ga K "FACTORS") && ([0, 3, 4, 5, 6] : List Nat).all fun b => match valueAt (kiL K (He.ga K "FACTORS")) (b : Int) with
  | some u => tpB K 3 u (.tup [gdD (pairB b).1, gdD (pairB b).2])
  | none => false
theorem facB_ok {K : PySem.W.Frag} {C : Addr} (h : facB K = true) : FK K C (He.ga K "FACTORS") (kiL K (He.ga K "FACTORS")) := by
  obtain ⟨h1, h2⟩ := He.ba h
  refine ⟨kiB_ok h1, fun b hb => ?_⟩
  have hm : b ∈ ([0, 3, 4, 5, 6] : List Nat) := by
    unfold isB at hb
    simp only [List.mem_cons, List.not_mem_nil, or_false]
    exact hb
  have := List.all_eq_true.mp h2 b hm
  cases hv : valueAt (kiL K (He.ga K "FACTORS")) (b : Int) with
  | none => rw [hv] at this; cases this
  | some u =>
    rw [hv] at this
    obtain ⟨v, r, t⟩ := tpB_ok 3 this
    exact ⟨u, v, rfl, r, t⟩
/-! ### the class -/
def slB (K : PySem.W.Frag) (C : Addr) (f : Str) (i : Nat) : Bool := He.eqO (PySem.W.findIn K (.ref C) f) (some (some (.ref (He.ma K C f)))) && (He.eqO (PySem.W.specialIn K (.ref (He.ma K C f)) "__get__") (some (some (.builtin "member_descriptor.__get__"))) &&
  (decide (PySem.W.takesIn K (.ref (He.ma K C f)) = some true) && (decide (PySem.W.typeIn K (.ref (He.ma K C f)) = some (.type "member_descriptor")) && decide (PySem.W.slotIn K (He.ma K C f) C = some i))))
theorem slB_ok {K : PySem.W.Frag} {C : Addr} {f : Str} {i : Nat} (h : slB K C f i = true) (hi : i < 1000) : ∃ p, Slot1 K C f p i := by
  obtain ⟨h1, h⟩ := He.ba h
  obtain ⟨h2, h⟩ := He.ba h
  obtain ⟨h3, h⟩ := He.ba h
  obtain ⟨h4, h5⟩ := He.ba h
  exact ⟨He.ma K C f, ⟨He.eqO_ok h1, He.eqO_ok h2, of_decide_eq_true h3, of_decide_eq_true h4, of_decide_eq_true h5, hi⟩⟩
def clB (K : PySem.W.Frag) (C : Addr) : Bool := PySem.W.plainGet K C Str.empty && (PySem.W.isClsIn K C && (PySem.W.plainOver K C && He.eqO (PySem.W.findIn K (.ref C) "__setattr__") (some (some (.builtin "object.__setattr__")))))
theorem clB_ok {K : PySem.W.Frag} {C : Addr} (h : clB K C = true) : SCls K C := by
  obtain ⟨h1, h⟩ := He.ba h
  obtain ⟨h2, h⟩ := He.ba h
  obtain ⟨h3, h4⟩ := He.ba h
  exact ⟨h1, h2, h3, He.eqO_ok h4⟩
def isB_ (K : PySem.W.Frag) (C : Addr) : Bool := He.eqO (PySem.W.findIn K (.ref C) "__class__") (some (some (.builtin "object.__class__"))) && (He.eqO (PySem.W.specialIn K (.builtin "object.__class__") "__get__") (some (some (.builtin "getset_descriptor.__get__"))) &&
  (decide (PySem.W.takesIn K (.builtin "object.__class__") = some true) && decide (PySem.W.mroIn K C (.type "object") = some true)))
theorem isB_ok {K : PySem.W.Frag} {C : Addr} (h : isB_ K C = true) : SIsi K C := by
  obtain ⟨h1, h⟩ := He.ba h
  obtain ⟨h2, h⟩ := He.ba h
  obtain ⟨h3, h4⟩ := He.ba h
  exact ⟨He.eqO_ok h1, He.eqO_ok h2, of_decide_eq_true h3, of_decide_eq_true h4⟩
def cmN : List Str := ["rows", "signed", "polygon", "ring"]
theorem cmN_rows : ("rows" : Str) ∈ cmN := List.mem_of_getElem? (i := 0) rfl
theorem cmN_signed : ("signed" : Str) ∈ cmN := List.mem_of_getElem? (i := 1) rfl
theorem cmN_polygon : ("polygon" : Str) ∈ cmN := List.mem_of_getElem? (i := 2) rfl
theorem cmN_ring : ("ring" : Str) ∈ cmN := List.mem_of_getElem? (i := 3) rfl
def exU (K : PySem.W.Frag) : Bool := clB K (He.ga K "System") && (slB K (He.ga K "System") "own_letters" 3 && (slB K (He.ga K "System") "own_factors" 1 && (slB K (He.ga K "System") "own_golden" 2 && (slB K (He.ga K "System") "own_bonds" 0 && (isB_ K (He.ga K "System") &&
  (decide (PySem.W.kitOne K (.ref (He.ga K "System")) (.ref (He.ga K "System")) = some true) && (PySem.W.readsIn K (He.ga K "System") (.type "type") && (He.eqO (PySem.W.specialIn K (.ref (He.ga K "System")) "__getattribute__") (some (some (.builtin "type.__getattribute__"))) &&
  (cmN.all (fun m => He5.wrapB K (He.ga K "System") "classmethod" "classmethod.__get__" m && PySem.W.fnIn K (He5.wf K (He.ga K "System") "classmethod" m)) && (He.tupB K "BONDS" [.int 0, .int 2, .int 3, .int 4, .int 5, .int 6] && facB K))))))))))
theorem ex_ok {K : PySem.W.Frag} (h : exU K = true) : TS0 K (He.ga K "System") ∧ SIsi K (He.ga K "System") ∧ PySem.W.kitOne K (.ref (He.ga K "System")) (.ref (He.ga K "System")) = some true ∧ CRead K (He.ga K "System") (.type "type") ∧
    (∀ m ∈ cmN, He5.wrapB K (He.ga K "System") "classmethod" "classmethod.__get__" m = true ∧ PySem.W.fnIn K (He5.wf K (He.ga K "System") "classmethod" m) = true) ∧
    (∀ H, Tp K (He.ga K "System") H (.ref (He.ga K "BONDS")) (.tup (([0, 2, 3, 4, 5, 6] : List Int).map Dt.int))) ∧ FK K (He.ga K "System") (He.ga K "FACTORS") (kiL K (He.ga K "FACTORS")) := by
  obtain ⟨h1, h⟩ := He.ba h
  obtain ⟨h2, h⟩ := He.ba h
  obtain ⟨h3, h⟩ := He.ba h
  obtain ⟨h4, h⟩ := He.ba h
  obtain ⟨h5, h⟩ := He.ba h
  obtain ⟨h6, h⟩ := He.ba h
  obtain ⟨h7, h⟩ := He.ba h
  obtain ⟨h8, h⟩ := He.ba h
  obtain ⟨h9, h⟩ := He.ba h
  obtain ⟨h10, h⟩ := He.ba h
  obtain ⟨h11, h12⟩ := He.ba h
  exact ⟨⟨clB_ok h1, slB_ok h2 (by decide), slB_ok h3 (by decide), slB_ok h4 (by decide), slB_ok h5 (by decide)⟩, isB_ok h6, of_decide_eq_true h7, ⟨h8, He.eqO_ok h9⟩, fun m hm => He.ba (List.all_eq_true.mp h10 m hm),
    fun H => .tup (He.tupB_ok h11 H) (TpAll.ofInts [0, 2, 3, 4, 5, 6]), facB_ok h12⟩
/-! ### the Hook -/
abbrev KU (n : Nat) (g : Addr → Option Obj) : PySem.W.Frag := He.frT g (He5.asA g n)
structure SaysU (fa : List He.Fa) (fn : List He5.DefA) (tf : List He.Defn) (h : Heap) (K : PySem.W.Frag) : Prop where
  says : He5.SaysA fa fn K
  more : exU K = true
  hd : ∀ p ∈ tf, PySem.W.codeHdIn K (He.cT K p).1 (He.cT K p).2 = true
  out : ∀ p ∈ tf, K.lookup (He.cT K p).2 = none
  empty : ∀ p ∈ tf, h.get? (He.cT K p).2 = some { cls := .none, data := .fields #[] }
abbrev AlU : Type := He.AlD × Bool
def obsU (n : Nat) (fa : List He.Fa) (fn : List He5.DefA) (tf : List He.Defn) (g : Addr → Option Obj) : AlU := (He5.obsA fa fn (KU n g), exU (KU n g) && He.tabsB g tf (KU n g))
theorem saysU_of {n : Nat} {fa : List He.Fa} {fn : List He5.DefA} {tf : List He.Defn} {h : Heap} (e : obsU n fa fn tf h.get? = (He5.valA fn, true)) : SaysU fa fn tf h (KU n h.get?) := by
  have e1 : He5.obsA fa fn (KU n h.get?) = He5.valA fn := congrArg (fun z : AlU => z.1) e
  have e2 : (exU (KU n h.get?) && He.tabsB h.get? tf (KU n h.get?)) = true := congrArg (fun z : AlU => z.2) e
  obtain ⟨h1, h2⟩ := He.ba e2
  have key : ∀ p ∈ tf, PySem.W.codeHdIn (KU n h.get?) (He.cT (KU n h.get?) p).1 (He.cT (KU n h.get?) p).2 = true ∧ ∃ o, h.get? (He.cT (KU n h.get?) p).2 = some o ∧ He.emptyTab o = true := fun p hp => by
    obtain ⟨h3, h4⟩ := He.ba (List.all_eq_true.mp h2 p hp)
    refine ⟨h3, ?_⟩
    cases q : h.get? (He.cT (KU n h.get?) p).2 with
    | none =>
      rw [q] at h4
      cases h4
    | some o =>
      rw [q] at h4
      exact ⟨o, rfl, h4⟩
  exact ⟨e1, h1, fun p hp => (key p hp).1, fun p hp => by
    obtain ⟨_, o, q, z⟩ := key p hp
    exact He.frT_none q z, fun p hp => by
    obtain ⟨_, o, q, z⟩ := key p hp
    rw [q, He.emptyTab_eq z]⟩
def hookU (n : Nat) (fa : List He.Fa) (fn : List He5.DefA) (tf : List He.Defn) : PySem.W.Hook where
  α := AlU
  obs := fun s => obsU n fa fn tf s.heap.get?
  val := fun _ => (He5.valA fn, true)
  says := fun _ h => ∃ K : PySem.W.Frag, K.In h ∧ SaysU fa fn tf h K
  of := fun _ _ e => ⟨_, He.frT_in, saysU_of e⟩
  keeps := fun _ _ _ ⟨K, hK, c⟩ k => ⟨K, PySem.W.Frag.In.keeps hK k, ⟨c.says, c.more, c.hd, c.out, fun p hp => k _ _ (c.empty p hp)⟩⟩
theorem obsU_eq {n : Nat} {fa : List He.Fa} {fn : List He5.DefA} {tf : List He.Defn} {g : Addr → Option Obj} {s : Shared} (h : ∀ a, g a = s.heap.get? a) : obsU n fa fn tf g = (hookU n fa fn tf).obs s := by
  have e : g = s.heap.get? := funext h
  rw [e] <;> rfl
/-- a def whose code object is told -/
theorem funC_of {K : PySem.W.Frag} {x qual : Str} {st : Stmt} {p : He.Defn} {fd : FuncData} (F : FunD K x qual (defArgs st) (defBody st) (defScope st) [] [] (He.fAd K p) fd) : FunC K x qual st (He.fAd K p) fd (He.cT K p).1 := by
  obtain ⟨oc, od, dV, kV, doc, pm, an, cdv, ct, osl, e, l, hc, hd, _⟩ := F.ex
  rcases hd with ⟨_, e2⟩ | ⟨e2, _⟩
  · subst e2
    obtain ⟨c, rfl⟩ := He.codeIn_ref hc
    have ec : He.codeOf K p = c := He.codeOf_eq l (by rw [e])
    refine ⟨⟨oc, od, kV, doc, pm, an, ct, osl, ?_, l, ?_⟩, F.kp⟩
    · show fd = PySem.W.fnOf x qual (defArgs st) (defBody st) (defScope st) .none kV doc pm an (.ref (He.codeOf K p)) ct
      rw [ec]; exact e
    · show PySem.W.codeIn K (.ref (He.codeOf K p)) qual = true
      rw [ec]; exact hc
  · exact absurd rfl e2
/-- how the three arguments of __init__ bind -/
theorem bd_init {K : PySem.W.Frag} {f : Addr} {fd : FuncData} {vd : V} (F : FunD K "__init__" "System.__init__" (defArgs s_System___init__) (defBody s_System___init__) (defScope s_System___init__) [vd] [] f fd) : Binds K fd ["self", "letters", "bonds"] [] := by
  obtain ⟨ds, r, b⟩ := F.binds1 (ps := ["self", "letters", "bonds"]) 3 1 (by simp) rfl fun T kV doc pm an cdv ct us its h1 h2 => match us, its, h1, h2 with | [_, _, _], [_], _, _ => ⟨_, rfl, rfl⟩
  cases r
  exact b
def looseN0 : List PySem.Str := ["_wall", "WordError", "InvalidSystem", "InvalidWord", "InvalidNumber", "is_whole", "is_within", "is_below", "is_row_below", "letter_row", "led_row", "times_s"]
def looseN1 : List PySem.Str := ["added_row", "first_frame", "frame_behind", "frame_ahead", "frame_of", "is_left", "first_left", "word_of_frame", "MAX_LETTERS", "BONDS", "PLAIN_BOND", "GOLDEN_BOND"]
def looseN2 : List PySem.Str := ["MOST_PLACES", "MOST_SIGNED", "MOST_RING", "FACTORS", "is_bond_told", "are_bonds", "factors_by", "system_text", "System", "require_system", "MAX_WORD", "is_word_in"]
def looseN3 : List PySem.Str := ["normal_in", "is_shortest_in", "require_word", "require_system_and_word", "normal", "length", "is_shortest", "_law_vat", "_law_tap", "_law_taste", "_law_added", "_law_times"]
def looseN4 : List PySem.Str := ["_law_is_low", "_law_factors", "_law_led", "_law_first", "_law_behind", "_law_ahead", "_law_state", "_law_lefts", "_law_normal", "_law_told_systems", "_law_system", "_law_word"]
def looseN5 : List PySem.Str := ["_law_can_be_less", "_law_grown", "_law_right"]
def looseN : List PySem.Str := looseN0 ++ (looseN1 ++ (looseN2 ++ (looseN3 ++ (looseN4 ++ (looseN5)))))
def faU0 : List He.Fa := [.glo "is_whole", .glo "is_within", .glo "is_below", .glo "is_row_below", .glo "letter_row", .glo "led_row", .glo "times_s", .glo "added_row", .glo "first_frame", .glo "frame_behind", .glo "frame_ahead", .glo "frame_of"]
def faU1 : List He.Fa := [.glo "is_left", .glo "first_left", .glo "word_of_frame", .glo "is_bond_told", .glo "are_bonds", .glo "factors_by", .glo "require_system", .glo "is_word_in", .glo "normal_in", .glo "is_shortest_in", .glo "require_word", .glo "require_system_and_word"]
def faU2 : List He.Fa := [.glo "normal", .glo "length", .glo "is_shortest", .glo "_law_vat", .glo "_law_tap", .glo "_law_taste", .glo "_law_added", .glo "_law_times", .glo "_law_is_low", .glo "_law_factors", .glo "_law_led", .glo "_law_first"]
def faU3 : List He.Fa := [.glo "_law_behind", .glo "_law_ahead", .glo "_law_state", .glo "_law_lefts", .glo "_law_normal", .glo "_law_told_systems", .glo "_law_system", .glo "_law_word", .glo "_law_can_be_less", .glo "_law_grown", .glo "_law_right", .glo "law"]
def faU4 : List He.Fa := [.glo "System", .glo "BONDS", .glo "FACTORS", .mkr "System", .int "MAX_LETTERS" 4, .int "PLAIN_BOND" 2, .int "GOLDEN_BOND" 5, .int "MOST_PLACES" 5, .int "MOST_SIGNED" 3, .int "MOST_RING" 3, .int "MAX_WORD" 40, .free "isinstance"]
def faU5 : List He.Fa := [.free "abs", .free "min", .free "max", .free "any", .free "all", .free "range", .free "tuple", .free "int", .free "bool", .free "sum", .free "enumerate", .free "zip"]
def faU6 : List He.Fa := [.free "len", .free "next"]
def faU : List He.Fa := faU0 ++ (faU1 ++ (faU2 ++ (faU3 ++ (faU4 ++ (faU5 ++ (faU6))))))
def d_is_whole : He5.DefA := ⟨fun K => He.ga K "is_whole", "is_whole", "is_whole", defArgs s_is_whole, defBody s_is_whole, defScope s_is_whole, [], []⟩
def d_is_within : He5.DefA := ⟨fun K => He.ga K "is_within", "is_within", "is_within", defArgs s_is_within, defBody s_is_within, defScope s_is_within, [], []⟩
def d_is_below : He5.DefA := ⟨fun K => He.ga K "is_below", "is_below", "is_below", defArgs s_is_below, defBody s_is_below, defScope s_is_below, [], []⟩
def d_is_row_below : He5.DefA := ⟨fun K => He.ga K "is_row_below", "is_row_below", "is_row_below", defArgs s_is_row_below, defBody s_is_row_below, defScope s_is_row_below, [], []⟩
def d_letter_row : He5.DefA := ⟨fun K => He.ga K "letter_row", "letter_row", "letter_row", defArgs s_letter_row, defBody s_letter_row, defScope s_letter_row, [], []⟩
def d_led_row : He5.DefA := ⟨fun K => He.ga K "led_row", "led_row", "led_row", defArgs s_led_row, defBody s_led_row, defScope s_led_row, [], []⟩
def d_times_s : He5.DefA := ⟨fun K => He.ga K "times_s", "times_s", "times_s", defArgs s_times_s, defBody s_times_s, defScope s_times_s, [], []⟩
def d_added_row : He5.DefA := ⟨fun K => He.ga K "added_row", "added_row", "added_row", defArgs s_added_row, defBody s_added_row, defScope s_added_row, [], []⟩
def d_first_frame : He5.DefA := ⟨fun K => He.ga K "first_frame", "first_frame", "first_frame", defArgs s_first_frame, defBody s_first_frame, defScope s_first_frame, [], []⟩
def d_frame_behind : He5.DefA := ⟨fun K => He.ga K "frame_behind", "frame_behind", "frame_behind", defArgs s_frame_behind, defBody s_frame_behind, defScope s_frame_behind, [], []⟩
def d_frame_ahead : He5.DefA := ⟨fun K => He.ga K "frame_ahead", "frame_ahead", "frame_ahead", defArgs s_frame_ahead, defBody s_frame_ahead, defScope s_frame_ahead, [], []⟩
def d_frame_of : He5.DefA := ⟨fun K => He.ga K "frame_of", "frame_of", "frame_of", defArgs s_frame_of, defBody s_frame_of, defScope s_frame_of, [], []⟩
def d_is_left : He5.DefA := ⟨fun K => He.ga K "is_left", "is_left", "is_left", defArgs s_is_left, defBody s_is_left, defScope s_is_left, [], []⟩
def d_first_left : He5.DefA := ⟨fun K => He.ga K "first_left", "first_left", "first_left", defArgs s_first_left, defBody s_first_left, defScope s_first_left, [], []⟩
def d_word_of_frame : He5.DefA := ⟨fun K => He.ga K "word_of_frame", "word_of_frame", "word_of_frame", defArgs s_word_of_frame, defBody s_word_of_frame, defScope s_word_of_frame, [], []⟩
def d_is_bond_told : He5.DefA := ⟨fun K => He.ga K "is_bond_told", "is_bond_told", "is_bond_told", defArgs s_is_bond_told, defBody s_is_bond_told, defScope s_is_bond_told, [], []⟩
def d_are_bonds : He5.DefA := ⟨fun K => He.ga K "are_bonds", "are_bonds", "are_bonds", defArgs s_are_bonds, defBody s_are_bonds, defScope s_are_bonds, [], []⟩
def d_factors_by : He5.DefA := ⟨fun K => He.ga K "factors_by", "factors_by", "factors_by", defArgs s_factors_by, defBody s_factors_by, defScope s_factors_by, [], []⟩
def d_require_system : He5.DefA := ⟨fun K => He.ga K "require_system", "require_system", "require_system", defArgs s_require_system, defBody s_require_system, defScope s_require_system, [], []⟩
def d_is_word_in : He5.DefA := ⟨fun K => He.ga K "is_word_in", "is_word_in", "is_word_in", defArgs s_is_word_in, defBody s_is_word_in, defScope s_is_word_in, [], []⟩
def d_normal_in : He5.DefA := ⟨fun K => He.ga K "normal_in", "normal_in", "normal_in", defArgs s_normal_in, defBody s_normal_in, defScope s_normal_in, [], []⟩
def d_is_shortest_in : He5.DefA := ⟨fun K => He.ga K "is_shortest_in", "is_shortest_in", "is_shortest_in", defArgs s_is_shortest_in, defBody s_is_shortest_in, defScope s_is_shortest_in, [], []⟩
def d_require_word : He5.DefA := ⟨fun K => He.ga K "require_word", "require_word", "require_word", defArgs s_require_word, defBody s_require_word, defScope s_require_word, [], []⟩
def d_require_system_and_word : He5.DefA := ⟨fun K => He.ga K "require_system_and_word", "require_system_and_word", "require_system_and_word", defArgs s_require_system_and_word, defBody s_require_system_and_word, defScope s_require_system_and_word, [], []⟩
def d_normal : He5.DefA := ⟨fun K => He.ga K "normal", "normal", "normal", defArgs s_normal, defBody s_normal, defScope s_normal, [], []⟩
def d_length : He5.DefA := ⟨fun K => He.ga K "length", "length", "length", defArgs s_length, defBody s_length, defScope s_length, [], []⟩
def d_is_shortest : He5.DefA := ⟨fun K => He.ga K "is_shortest", "is_shortest", "is_shortest", defArgs s_is_shortest, defBody s_is_shortest, defScope s_is_shortest, [], []⟩
def d__law_vat : He5.DefA := ⟨fun K => He.ga K "_law_vat", "_law_vat", "_law_vat", defArgs s__law_vat, defBody s__law_vat, defScope s__law_vat, [], []⟩
def d__law_tap : He5.DefA := ⟨fun K => He.ga K "_law_tap", "_law_tap", "_law_tap", defArgs s__law_tap, defBody s__law_tap, defScope s__law_tap, [], []⟩
def d__law_taste : He5.DefA := ⟨fun K => He.ga K "_law_taste", "_law_taste", "_law_taste", defArgs s__law_taste, defBody s__law_taste, defScope s__law_taste, [], []⟩
def d__law_added : He5.DefA := ⟨fun K => He.ga K "_law_added", "_law_added", "_law_added", defArgs s__law_added, defBody s__law_added, defScope s__law_added, [], []⟩
def d__law_times : He5.DefA := ⟨fun K => He.ga K "_law_times", "_law_times", "_law_times", defArgs s__law_times, defBody s__law_times, defScope s__law_times, [], []⟩
def d__law_is_low : He5.DefA := ⟨fun K => He.ga K "_law_is_low", "_law_is_low", "_law_is_low", defArgs s__law_is_low, defBody s__law_is_low, defScope s__law_is_low, [], []⟩
def d__law_factors : He5.DefA := ⟨fun K => He.ga K "_law_factors", "_law_factors", "_law_factors", defArgs s__law_factors, defBody s__law_factors, defScope s__law_factors, [], []⟩
def d__law_led : He5.DefA := ⟨fun K => He.ga K "_law_led", "_law_led", "_law_led", defArgs s__law_led, defBody s__law_led, defScope s__law_led, [], []⟩
def d__law_first : He5.DefA := ⟨fun K => He.ga K "_law_first", "_law_first", "_law_first", defArgs s__law_first, defBody s__law_first, defScope s__law_first, [], []⟩
def d__law_behind : He5.DefA := ⟨fun K => He.ga K "_law_behind", "_law_behind", "_law_behind", defArgs s__law_behind, defBody s__law_behind, defScope s__law_behind, [], []⟩
def d__law_ahead : He5.DefA := ⟨fun K => He.ga K "_law_ahead", "_law_ahead", "_law_ahead", defArgs s__law_ahead, defBody s__law_ahead, defScope s__law_ahead, [], []⟩
def d__law_state : He5.DefA := ⟨fun K => He.ga K "_law_state", "_law_state", "_law_state", defArgs s__law_state, defBody s__law_state, defScope s__law_state, [], []⟩
def d__law_lefts : He5.DefA := ⟨fun K => He.ga K "_law_lefts", "_law_lefts", "_law_lefts", defArgs s__law_lefts, defBody s__law_lefts, defScope s__law_lefts, [], []⟩
def d__law_normal : He5.DefA := ⟨fun K => He.ga K "_law_normal", "_law_normal", "_law_normal", defArgs s__law_normal, defBody s__law_normal, defScope s__law_normal, [], []⟩
def d__law_told_systems : He5.DefA := ⟨fun K => He.ga K "_law_told_systems", "_law_told_systems", "_law_told_systems", defArgs s__law_told_systems, defBody s__law_told_systems, defScope s__law_told_systems, [], []⟩
def d__law_system : He5.DefA := ⟨fun K => He.ga K "_law_system", "_law_system", "_law_system", defArgs s__law_system, defBody s__law_system, defScope s__law_system, [], []⟩
def d__law_word : He5.DefA := ⟨fun K => He.ga K "_law_word", "_law_word", "_law_word", defArgs s__law_word, defBody s__law_word, defScope s__law_word, [], []⟩
def d__law_can_be_less : He5.DefA := ⟨fun K => He.ga K "_law_can_be_less", "_law_can_be_less", "_law_can_be_less", defArgs s__law_can_be_less, defBody s__law_can_be_less, defScope s__law_can_be_less, [], []⟩
def d__law_grown : He5.DefA := ⟨fun K => He.ga K "_law_grown", "_law_grown", "_law_grown", defArgs s__law_grown, defBody s__law_grown, defScope s__law_grown, [], []⟩
def d__law_right : He5.DefA := ⟨fun K => He.ga K "_law_right", "_law_right", "_law_right", defArgs s__law_right, defBody s__law_right, defScope s__law_right, [], []⟩
def d_law : He5.DefA := ⟨fun K => He.ga K "law", "law", "law", defArgs s_law, defBody s_law, defScope s_law, [], []⟩
def d_init : He5.DefA := ⟨fun K => He.ma K (He.ga K "System") "__init__", "__init__", "System.__init__", defArgs s_System___init__, defBody s_System___init__, defScope s_System___init__, [.adr (He.dflAt ("System", some "__init__") 0)], []⟩
def dm_rows : He5.DefA := ⟨fun K => He5.wf K (He.ga K "System") "classmethod" "rows", "rows", "System.rows", defArgs s_System_rows, defBody s_System_rows, defScope s_System_rows, [], []⟩
def dm_signed : He5.DefA := ⟨fun K => He5.wf K (He.ga K "System") "classmethod" "signed", "signed", "System.signed", defArgs s_System_signed, defBody s_System_signed, defScope s_System_signed, [], []⟩
def dm_polygon : He5.DefA := ⟨fun K => He5.wf K (He.ga K "System") "classmethod" "polygon", "polygon", "System.polygon", defArgs s_System_polygon, defBody s_System_polygon, defScope s_System_polygon, [], []⟩
def dm_ring : He5.DefA := ⟨fun K => He5.wf K (He.ga K "System") "classmethod" "ring", "ring", "System.ring", defArgs s_System_ring, defBody s_System_ring, defScope s_System_ring, [], []⟩
def fnU0 : List He5.DefA := [d_is_whole, d_is_within, d_is_below, d_is_row_below, d_letter_row, d_led_row, d_times_s, d_added_row, d_first_frame, d_frame_behind, d_frame_ahead, d_frame_of]
def fnU1 : List He5.DefA := [d_is_left, d_first_left, d_word_of_frame, d_is_bond_told, d_are_bonds, d_factors_by, d_require_system, d_is_word_in, d_normal_in, d_is_shortest_in, d_require_word, d_require_system_and_word]
def fnU2 : List He5.DefA := [d_normal, d_length, d_is_shortest, d__law_vat, d__law_tap, d__law_taste, d__law_added, d__law_times, d__law_is_low, d__law_factors, d__law_led, d__law_first]
def fnU3 : List He5.DefA := [d__law_behind, d__law_ahead, d__law_state, d__law_lefts, d__law_normal, d__law_told_systems, d__law_system, d__law_word, d__law_can_be_less, d__law_grown, d__law_right, d_law]
def fnU4 : List He5.DefA := [d_init, dm_rows, dm_signed, dm_polygon, dm_ring]
def fnU : List He5.DefA := fnU0 ++ (fnU1 ++ (fnU2 ++ (fnU3 ++ (fnU4))))
abbrev RU : PySem.W.OpenRow := PySem.W.OpenLaw.row PySem.Challenge.rw_underwords_k06_whole_normal_words_by_roo
def tfU : List He.Defn := [("first_left", none)]
abbrev hkU : PySem.W.Hook := hookU 6 faU fnU tfU
def obU (s : PySem.W.SharedT) : AlU := obsU 6 faU fnU tfU (HandSHeadRun.getT s)
theorem obU_eq (s : PySem.W.SharedT) : obU s = hkU.obs s.abs := obsU_eq (HandSHeadRun.getT_eq s)
abbrev qU : Program := PySem.W.view RU.prog [69]
theorem factsU {P : Program} {w : World} {K : PySem.W.Frag} {h base : Heap} {mg : Str → Option Value} {fd_law : FuncData} (KX : K.In h) (G : h.Ns mainGlobals mg) (c : SaysU faU fnU tfU h K) (TB : LamX.TabB base mg (He.cT K ("first_left", none)).1 (He.cT K ("first_left", none)).2)
    (FD_law : FunD K "law" "law" (defArgs s_law) (defBody s_law) (defScope s_law) [] [] (He.ga K "law") fd_law) : FnOk P w K mg base CX0 11 (He.ga K "law") fd_law ["_law_script"] (sp_law (He.cT K ("first_left", none)).2 K (He.ga K "System")) := by
  have hK := c.says
  have T : Bt mg := ⟨He.free_ok KX G (c.says.fact 59 (f := .free "isinstance") rfl), He.free_ok KX G (c.says.fact 60 (f := .free "abs") rfl), He.free_ok KX G (c.says.fact 61 (f := .free "min") rfl), He.free_ok KX G (c.says.fact 62 (f := .free "max") rfl), He.free_ok KX G (c.says.fact 63 (f := .free "any") rfl), He.free_ok KX G (c.says.fact 64 (f := .free "all") rfl), He.free_ok KX G (c.says.fact 65 (f := .free "range") rfl), He.free_ok KX G (c.says.fact 66 (f := .free "tuple") rfl), He.free_ok KX G (c.says.fact 67 (f := .free "int") rfl), He.free_ok KX G (c.says.fact 68 (f := .free "bool") rfl), He.free_ok KX G (c.says.fact 69 (f := .free "sum") rfl), He.free_ok KX G (c.says.fact 70 (f := .free "enumerate") rfl), He.free_ok KX G (c.says.fact 71 (f := .free "zip") rfl), He.free_ok KX G (c.says.fact 72 (f := .free "len") rfl), He.free_ok KX G (c.says.fact 73 (f := .free "next") rfl)⟩
  obtain ⟨Ts, SI, kit, rd, wr, tb, FF⟩ := ex_ok c.more
  have mSystem := He.glo_ok KX G (c.says.fact 48 (f := .glo "System") rfl)
  have i_MAX_LETTERS := He.int_ok KX G (c.says.fact 52 (f := .int "MAX_LETTERS" 4) rfl)
  have i_PLAIN_BOND := He.int_ok KX G (c.says.fact 53 (f := .int "PLAIN_BOND" 2) rfl)
  have i_GOLDEN_BOND := He.int_ok KX G (c.says.fact 54 (f := .int "GOLDEN_BOND" 5) rfl)
  have i_MOST_PLACES := He.int_ok KX G (c.says.fact 55 (f := .int "MOST_PLACES" 5) rfl)
  have i_MOST_SIGNED := He.int_ok KX G (c.says.fact 56 (f := .int "MOST_SIGNED" 3) rfl)
  have i_MOST_RING := He.int_ok KX G (c.says.fact 57 (f := .int "MOST_RING" 3) rfl)
  have i_MAX_WORD := He.int_ok KX G (c.says.fact 58 (f := .int "MAX_WORD" 40) rfl)
  have M : TM K mg (He.ga K "System") := ⟨mSystem, i_MAX_WORD, SI, kit⟩
  have M2 : TM2 K mg (He.ga K "System") (He.ga K "BONDS") (He.ga K "FACTORS") (kiL K (He.ga K "FACTORS")) := ⟨He.glo_ok KX G (c.says.fact 49 (f := .glo "BONDS") rfl), tb, He.glo_ok KX G (c.says.fact 50 (f := .glo "FACTORS") rfl), FF, i_MAX_LETTERS, i_PLAIN_BOND, i_GOLDEN_BOND, i_MOST_PLACES, i_MOST_SIGNED, i_MOST_RING⟩
  obtain ⟨fd__law_vat, FD__law_vat⟩ := c.says.def_ 27 (d := d__law_vat) rfl
  have F__law_vat : Fun K "_law_vat" "_law_vat" s__law_vat (He.ga K "_law_vat") fd__law_vat := He5.fun_of FD__law_vat
  have c__law_vat : Cl P w K mg base "_law_vat" 1 (sp__law_vat K (He.ga K "System")) := ⟨He.ga K "_law_vat", fd__law_vat, ["_law_script", "_law_spot"], ok__law_vat (C := He.ga K "System") F__law_vat T, He.glo_ok KX G (c.says.fact 27 (f := .glo "_law_vat") rfl), F__law_vat.kp, F__law_vat.binds (ps := ["_law_script", "_law_spot"]) fun _ _ _ _ _ _ us hl => match us, hl with | [_, _], _ => rfl⟩
  obtain ⟨fd__law_tap, FD__law_tap⟩ := c.says.def_ 28 (d := d__law_tap) rfl
  have F__law_tap : Fun K "_law_tap" "_law_tap" s__law_tap (He.ga K "_law_tap") fd__law_tap := He5.fun_of FD__law_tap
  have c__law_tap : Cl P w K mg base "_law_tap" 1 (sp__law_tap K (He.ga K "System")) := ⟨He.ga K "_law_tap", fd__law_tap, ["_law_vat_here", "_law_total"], ok__law_tap (C := He.ga K "System") F__law_tap T, He.glo_ok KX G (c.says.fact 28 (f := .glo "_law_tap") rfl), F__law_tap.kp, F__law_tap.binds (ps := ["_law_vat_here", "_law_total"]) fun _ _ _ _ _ _ us hl => match us, hl with | [_, _], _ => rfl⟩
  obtain ⟨fd__law_taste, FD__law_taste⟩ := c.says.def_ 29 (d := d__law_taste) rfl
  have F__law_taste : Fun K "_law_taste" "_law_taste" s__law_taste (He.ga K "_law_taste") fd__law_taste := He5.fun_of FD__law_taste
  have c__law_taste : Cl P w K mg base "_law_taste" 2 (sp__law_taste K (He.ga K "System")) := ⟨He.ga K "_law_taste", fd__law_taste, ["_law_vat_here", "_law_items"], ok__law_taste (C := He.ga K "System") F__law_taste T c__law_tap, He.glo_ok KX G (c.says.fact 29 (f := .glo "_law_taste") rfl), F__law_taste.kp, F__law_taste.binds (ps := ["_law_vat_here", "_law_items"]) fun _ _ _ _ _ _ us hl => match us, hl with | [_, _], _ => rfl⟩
  obtain ⟨fd__law_told_systems, FD__law_told_systems⟩ := c.says.def_ 41 (d := d__law_told_systems) rfl
  have F__law_told_systems : Fun K "_law_told_systems" "_law_told_systems" s__law_told_systems (He.ga K "_law_told_systems") fd__law_told_systems := He5.fun_of FD__law_told_systems
  have c__law_told_systems : Cl P w K mg base "_law_told_systems" 1 (sp__law_told_systems K (He.ga K "System")) := ⟨He.ga K "_law_told_systems", fd__law_told_systems, [], ok__law_told_systems (C := He.ga K "System") F__law_told_systems, He.glo_ok KX G (c.says.fact 41 (f := .glo "_law_told_systems") rfl), F__law_told_systems.kp, F__law_told_systems.binds (ps := []) fun _ _ _ _ _ _ us hl => match us, hl with | [], _ => rfl⟩
  obtain ⟨fd__law_system, FD__law_system⟩ := c.says.def_ 42 (d := d__law_system) rfl
  have F__law_system : Fun K "_law_system" "_law_system" s__law_system (He.ga K "_law_system") fd__law_system := He5.fun_of FD__law_system
  have c__law_system : Cl P w K mg base "_law_system" 3 (sp__law_system K (He.ga K "System")) := ⟨He.ga K "_law_system", fd__law_system, ["_law_vat_here"], ok__law_system (C := He.ga K "System") F__law_system T c__law_tap c__law_taste c__law_told_systems, He.glo_ok KX G (c.says.fact 42 (f := .glo "_law_system") rfl), F__law_system.kp, F__law_system.binds (ps := ["_law_vat_here"]) fun _ _ _ _ _ _ us hl => match us, hl with | [_], _ => rfl⟩
  obtain ⟨fd__law_factors, FD__law_factors⟩ := c.says.def_ 33 (d := d__law_factors) rfl
  have F__law_factors : Fun K "_law_factors" "_law_factors" s__law_factors (He.ga K "_law_factors") fd__law_factors := He5.fun_of FD__law_factors
  have c__law_factors : Cl P w K mg base "_law_factors" 1 (sp__law_factors K (He.ga K "System")) := ⟨He.ga K "_law_factors", fd__law_factors, ["_law_letters", "_law_bonds"], ok__law_factors (C := He.ga K "System") F__law_factors T, He.glo_ok KX G (c.says.fact 33 (f := .glo "_law_factors") rfl), F__law_factors.kp, F__law_factors.binds (ps := ["_law_letters", "_law_bonds"]) fun _ _ _ _ _ _ us hl => match us, hl with | [_, _], _ => rfl⟩
  obtain ⟨fd__law_word, FD__law_word⟩ := c.says.def_ 43 (d := d__law_word) rfl
  have F__law_word : Fun K "_law_word" "_law_word" s__law_word (He.ga K "_law_word") fd__law_word := He5.fun_of FD__law_word
  have c__law_word : Cl P w K mg base "_law_word" 2 (sp__law_word K (He.ga K "System")) := ⟨He.ga K "_law_word", fd__law_word, ["_law_vat_here", "_law_letters", "_law_most"], ok__law_word (C := He.ga K "System") F__law_word T c__law_tap, He.glo_ok KX G (c.says.fact 43 (f := .glo "_law_word") rfl), F__law_word.kp, F__law_word.binds (ps := ["_law_vat_here", "_law_letters", "_law_most"]) fun _ _ _ _ _ _ us hl => match us, hl with | [_, _, _], _ => rfl⟩
  obtain ⟨fd__law_first, FD__law_first⟩ := c.says.def_ 35 (d := d__law_first) rfl
  have F__law_first : Fun K "_law_first" "_law_first" s__law_first (He.ga K "_law_first") fd__law_first := He5.fun_of FD__law_first
  have c__law_first : Cl P w K mg base "_law_first" 1 (sp__law_first K (He.ga K "System")) := ⟨He.ga K "_law_first", fd__law_first, ["_law_factors_here"], ok__law_first (C := He.ga K "System") F__law_first T, He.glo_ok KX G (c.says.fact 35 (f := .glo "_law_first") rfl), F__law_first.kp, F__law_first.binds (ps := ["_law_factors_here"]) fun _ _ _ _ _ _ us hl => match us, hl with | [_], _ => rfl⟩
  obtain ⟨fd__law_added, FD__law_added⟩ := c.says.def_ 30 (d := d__law_added) rfl
  have F__law_added : Fun K "_law_added" "_law_added" s__law_added (He.ga K "_law_added") fd__law_added := He5.fun_of FD__law_added
  have c__law_added : Cl P w K mg base "_law_added" 1 (sp__law_added K (He.ga K "System")) := ⟨He.ga K "_law_added", fd__law_added, ["_law_one", "_law_other"], ok__law_added (C := He.ga K "System") F__law_added, He.glo_ok KX G (c.says.fact 30 (f := .glo "_law_added") rfl), F__law_added.kp, F__law_added.binds (ps := ["_law_one", "_law_other"]) fun _ _ _ _ _ _ us hl => match us, hl with | [_, _], _ => rfl⟩
  obtain ⟨fd__law_times, FD__law_times⟩ := c.says.def_ 31 (d := d__law_times) rfl
  have F__law_times : Fun K "_law_times" "_law_times" s__law_times (He.ga K "_law_times") fd__law_times := He5.fun_of FD__law_times
  have c__law_times : Cl P w K mg base "_law_times" 1 (sp__law_times K (He.ga K "System")) := ⟨He.ga K "_law_times", fd__law_times, ["_law_one", "_law_other"], ok__law_times (C := He.ga K "System") F__law_times, He.glo_ok KX G (c.says.fact 31 (f := .glo "_law_times") rfl), F__law_times.kp, F__law_times.binds (ps := ["_law_one", "_law_other"]) fun _ _ _ _ _ _ us hl => match us, hl with | [_, _], _ => rfl⟩
  obtain ⟨fd__law_led, FD__law_led⟩ := c.says.def_ 34 (d := d__law_led) rfl
  have F__law_led : Fun K "_law_led" "_law_led" s__law_led (He.ga K "_law_led") fd__law_led := He5.fun_of FD__law_led
  have c__law_led : Cl P w K mg base "_law_led" 2 (sp__law_led K (He.ga K "System")) := ⟨He.ga K "_law_led", fd__law_led, ["_law_factors_here", "_law_letter", "_law_row"], ok__law_led (C := He.ga K "System") F__law_led T c__law_added c__law_times, He.glo_ok KX G (c.says.fact 34 (f := .glo "_law_led") rfl), F__law_led.kp, F__law_led.binds (ps := ["_law_factors_here", "_law_letter", "_law_row"]) fun _ _ _ _ _ _ us hl => match us, hl with | [_, _, _], _ => rfl⟩
  obtain ⟨fd__law_behind, FD__law_behind⟩ := c.says.def_ 36 (d := d__law_behind) rfl
  have F__law_behind : Fun K "_law_behind" "_law_behind" s__law_behind (He.ga K "_law_behind") fd__law_behind := He5.fun_of FD__law_behind
  have c__law_behind : Cl P w K mg base "_law_behind" 3 (sp__law_behind K (He.ga K "System")) := ⟨He.ga K "_law_behind", fd__law_behind, ["_law_factors_here", "_law_state_here", "_law_letter"], ok__law_behind (C := He.ga K "System") F__law_behind T c__law_led, He.glo_ok KX G (c.says.fact 36 (f := .glo "_law_behind") rfl), F__law_behind.kp, F__law_behind.binds (ps := ["_law_factors_here", "_law_state_here", "_law_letter"]) fun _ _ _ _ _ _ us hl => match us, hl with | [_, _, _], _ => rfl⟩
  obtain ⟨fd__law_state, FD__law_state⟩ := c.says.def_ 38 (d := d__law_state) rfl
  have F__law_state : Fun K "_law_state" "_law_state" s__law_state (He.ga K "_law_state") fd__law_state := He5.fun_of FD__law_state
  have c__law_state : Cl P w K mg base "_law_state" 4 (sp__law_state K (He.ga K "System")) := ⟨He.ga K "_law_state", fd__law_state, ["_law_factors_here", "_law_word_here"], ok__law_state (C := He.ga K "System") F__law_state T c__law_first c__law_behind, He.glo_ok KX G (c.says.fact 38 (f := .glo "_law_state") rfl), F__law_state.kp, F__law_state.binds (ps := ["_law_factors_here", "_law_word_here"]) fun _ _ _ _ _ _ us hl => match us, hl with | [_, _], _ => rfl⟩
  obtain ⟨fd__law_is_low, FD__law_is_low⟩ := c.says.def_ 32 (d := d__law_is_low) rfl
  have F__law_is_low : Fun K "_law_is_low" "_law_is_low" s__law_is_low (He.ga K "_law_is_low") fd__law_is_low := He5.fun_of FD__law_is_low
  have c__law_is_low : Cl P w K mg base "_law_is_low" 1 (sp__law_is_low K (He.ga K "System")) := ⟨He.ga K "_law_is_low", fd__law_is_low, ["_law_row"], ok__law_is_low (C := He.ga K "System") F__law_is_low, He.glo_ok KX G (c.says.fact 32 (f := .glo "_law_is_low") rfl), F__law_is_low.kp, F__law_is_low.binds (ps := ["_law_row"]) fun _ _ _ _ _ _ us hl => match us, hl with | [_], _ => rfl⟩
  obtain ⟨fd__law_lefts, FD__law_lefts⟩ := c.says.def_ 39 (d := d__law_lefts) rfl
  have F__law_lefts : Fun K "_law_lefts" "_law_lefts" s__law_lefts (He.ga K "_law_lefts") fd__law_lefts := He5.fun_of FD__law_lefts
  have c__law_lefts : Cl P w K mg base "_law_lefts" 2 (sp__law_lefts K (He.ga K "System")) := ⟨He.ga K "_law_lefts", fd__law_lefts, ["_law_state_here"], ok__law_lefts (C := He.ga K "System") F__law_lefts T c__law_is_low, He.glo_ok KX G (c.says.fact 39 (f := .glo "_law_lefts") rfl), F__law_lefts.kp, F__law_lefts.binds (ps := ["_law_state_here"]) fun _ _ _ _ _ _ us hl => match us, hl with | [_], _ => rfl⟩
  obtain ⟨fd__law_ahead, FD__law_ahead⟩ := c.says.def_ 37 (d := d__law_ahead) rfl
  have F__law_ahead : Fun K "_law_ahead" "_law_ahead" s__law_ahead (He.ga K "_law_ahead") fd__law_ahead := He5.fun_of FD__law_ahead
  have c__law_ahead : Cl P w K mg base "_law_ahead" 2 (sp__law_ahead K (He.ga K "System")) := ⟨He.ga K "_law_ahead", fd__law_ahead, ["_law_factors_here", "_law_state_here", "_law_letter"], ok__law_ahead (C := He.ga K "System") F__law_ahead T c__law_added c__law_times, He.glo_ok KX G (c.says.fact 37 (f := .glo "_law_ahead") rfl), F__law_ahead.kp, F__law_ahead.binds (ps := ["_law_factors_here", "_law_state_here", "_law_letter"]) fun _ _ _ _ _ _ us hl => match us, hl with | [_, _, _], _ => rfl⟩
  obtain ⟨fd__law_normal, FD__law_normal⟩ := c.says.def_ 40 (d := d__law_normal) rfl
  have F__law_normal : Fun K "_law_normal" "_law_normal" s__law_normal (He.ga K "_law_normal") fd__law_normal := He5.fun_of FD__law_normal
  have c__law_normal : Cl P w K mg base "_law_normal" 3 (sp__law_normal K (He.ga K "System")) := ⟨He.ga K "_law_normal", fd__law_normal, ["_law_factors_here", "_law_state_here"], ok__law_normal (C := He.ga K "System") F__law_normal T c__law_lefts c__law_ahead, He.glo_ok KX G (c.says.fact 40 (f := .glo "_law_normal") rfl), F__law_normal.kp, F__law_normal.binds (ps := ["_law_factors_here", "_law_state_here"]) fun _ _ _ _ _ _ us hl => match us, hl with | [_, _], _ => rfl⟩
  obtain ⟨fd_require_system, FD_require_system⟩ := c.says.def_ 18 (d := d_require_system) rfl
  have F_require_system : Fun K "require_system" "require_system" s_require_system (He.ga K "require_system") fd_require_system := He5.fun_of FD_require_system
  have c_require_system : Cl P w K mg base "require_system" 1 (sp_require_system K (He.ga K "System")) := ⟨He.ga K "require_system", fd_require_system, ["value"], ok_require_system (C := He.ga K "System") F_require_system T Ts M, He.glo_ok KX G (c.says.fact 18 (f := .glo "require_system") rfl), F_require_system.kp, F_require_system.binds (ps := ["value"]) fun _ _ _ _ _ _ us hl => match us, hl with | [_], _ => rfl⟩
  obtain ⟨fd_is_whole, FD_is_whole⟩ := c.says.def_ 0 (d := d_is_whole) rfl
  have F_is_whole : Fun K "is_whole" "is_whole" s_is_whole (He.ga K "is_whole") fd_is_whole := He5.fun_of FD_is_whole
  have c_is_whole : Cl P w K mg base "is_whole" 1 (sp_is_whole K (He.ga K "System")) := ⟨He.ga K "is_whole", fd_is_whole, ["value"], ok_is_whole (C := He.ga K "System") F_is_whole T, He.glo_ok KX G (c.says.fact 0 (f := .glo "is_whole") rfl), F_is_whole.kp, F_is_whole.binds (ps := ["value"]) fun _ _ _ _ _ _ us hl => match us, hl with | [_], _ => rfl⟩
  obtain ⟨fd_is_within, FD_is_within⟩ := c.says.def_ 1 (d := d_is_within) rfl
  have F_is_within : Fun K "is_within" "is_within" s_is_within (He.ga K "is_within") fd_is_within := He5.fun_of FD_is_within
  have c_is_within : Cl P w K mg base "is_within" 2 (sp_is_within K (He.ga K "System")) := ⟨He.ga K "is_within", fd_is_within, ["value", "least", "greatest"], ok_is_within (C := He.ga K "System") F_is_within T c_is_whole, He.glo_ok KX G (c.says.fact 1 (f := .glo "is_within") rfl), F_is_within.kp, F_is_within.binds (ps := ["value", "least", "greatest"]) fun _ _ _ _ _ _ us hl => match us, hl with | [_, _, _], _ => rfl⟩
  obtain ⟨fd_is_word_in, FD_is_word_in⟩ := c.says.def_ 19 (d := d_is_word_in) rfl
  have F_is_word_in : Fun K "is_word_in" "is_word_in" s_is_word_in (He.ga K "is_word_in") fd_is_word_in := He5.fun_of FD_is_word_in
  have c_is_word_in : Cl P w K mg base "is_word_in" 3 (sp_is_word_in K (He.ga K "System")) := ⟨He.ga K "is_word_in", fd_is_word_in, ["system", "value"], ok_is_word_in (C := He.ga K "System") F_is_word_in T Ts M c_is_within, He.glo_ok KX G (c.says.fact 19 (f := .glo "is_word_in") rfl), F_is_word_in.kp, F_is_word_in.binds (ps := ["system", "value"]) fun _ _ _ _ _ _ us hl => match us, hl with | [_, _], _ => rfl⟩
  obtain ⟨fd_require_word, FD_require_word⟩ := c.says.def_ 22 (d := d_require_word) rfl
  have F_require_word : Fun K "require_word" "require_word" s_require_word (He.ga K "require_word") fd_require_word := He5.fun_of FD_require_word
  have c_require_word : Cl P w K mg base "require_word" 4 (sp_require_word K (He.ga K "System")) := ⟨He.ga K "require_word", fd_require_word, ["system", "value"], ok_require_word (C := He.ga K "System") F_require_word c_is_word_in, He.glo_ok KX G (c.says.fact 22 (f := .glo "require_word") rfl), F_require_word.kp, F_require_word.binds (ps := ["system", "value"]) fun _ _ _ _ _ _ us hl => match us, hl with | [_, _], _ => rfl⟩
  obtain ⟨fd_require_system_and_word, FD_require_system_and_word⟩ := c.says.def_ 23 (d := d_require_system_and_word) rfl
  have F_require_system_and_word : Fun K "require_system_and_word" "require_system_and_word" s_require_system_and_word (He.ga K "require_system_and_word") fd_require_system_and_word := He5.fun_of FD_require_system_and_word
  have c_require_system_and_word : Cl P w K mg base "require_system_and_word" 5 (sp_require_system_and_word K (He.ga K "System")) := ⟨He.ga K "require_system_and_word", fd_require_system_and_word, ["system", "word"], ok_require_system_and_word (C := He.ga K "System") F_require_system_and_word c_require_system c_require_word, He.glo_ok KX G (c.says.fact 23 (f := .glo "require_system_and_word") rfl), F_require_system_and_word.kp, F_require_system_and_word.binds (ps := ["system", "word"]) fun _ _ _ _ _ _ us hl => match us, hl with | [_, _], _ => rfl⟩
  obtain ⟨fd_letter_row, FD_letter_row⟩ := c.says.def_ 4 (d := d_letter_row) rfl
  have F_letter_row : Fun K "letter_row" "letter_row" s_letter_row (He.ga K "letter_row") fd_letter_row := He5.fun_of FD_letter_row
  have c_letter_row : Cl P w K mg base "letter_row" 1 (sp_letter_row K (He.ga K "System")) := ⟨He.ga K "letter_row", fd_letter_row, ["system", "letter"], ok_letter_row (C := He.ga K "System") F_letter_row T Ts, He.glo_ok KX G (c.says.fact 4 (f := .glo "letter_row") rfl), F_letter_row.kp, F_letter_row.binds (ps := ["system", "letter"]) fun _ _ _ _ _ _ us hl => match us, hl with | [_, _], _ => rfl⟩
  obtain ⟨fd_first_frame, FD_first_frame⟩ := c.says.def_ 8 (d := d_first_frame) rfl
  have F_first_frame : Fun K "first_frame" "first_frame" s_first_frame (He.ga K "first_frame") fd_first_frame := He5.fun_of FD_first_frame
  have c_first_frame : Cl P w K mg base "first_frame" 2 (sp_first_frame K (He.ga K "System")) := ⟨He.ga K "first_frame", fd_first_frame, ["system"], ok_first_frame (C := He.ga K "System") F_first_frame T Ts c_letter_row, He.glo_ok KX G (c.says.fact 8 (f := .glo "first_frame") rfl), F_first_frame.kp, F_first_frame.binds (ps := ["system"]) fun _ _ _ _ _ _ us hl => match us, hl with | [_], _ => rfl⟩
  obtain ⟨fd_led_row, FD_led_row⟩ := c.says.def_ 5 (d := d_led_row) rfl
  have F_led_row : Fun K "led_row" "led_row" s_led_row (He.ga K "led_row") fd_led_row := He5.fun_of FD_led_row
  have c_led_row : Cl P w K mg base "led_row" 1 (sp_led_row K (He.ga K "System")) := ⟨He.ga K "led_row", fd_led_row, ["system", "letter", "row"], ok_led_row (C := He.ga K "System") F_led_row T Ts, He.glo_ok KX G (c.says.fact 5 (f := .glo "led_row") rfl), F_led_row.kp, F_led_row.binds (ps := ["system", "letter", "row"]) fun _ _ _ _ _ _ us hl => match us, hl with | [_, _, _], _ => rfl⟩
  obtain ⟨fd_frame_behind, FD_frame_behind⟩ := c.says.def_ 9 (d := d_frame_behind) rfl
  have F_frame_behind : Fun K "frame_behind" "frame_behind" s_frame_behind (He.ga K "frame_behind") fd_frame_behind := He5.fun_of FD_frame_behind
  have c_frame_behind : Cl P w K mg base "frame_behind" 2 (sp_frame_behind K (He.ga K "System")) := ⟨He.ga K "frame_behind", fd_frame_behind, ["system", "frame", "letter"], ok_frame_behind (C := He.ga K "System") F_frame_behind T c_led_row, He.glo_ok KX G (c.says.fact 9 (f := .glo "frame_behind") rfl), F_frame_behind.kp, F_frame_behind.binds (ps := ["system", "frame", "letter"]) fun _ _ _ _ _ _ us hl => match us, hl with | [_, _, _], _ => rfl⟩
  obtain ⟨fd_frame_of, FD_frame_of⟩ := c.says.def_ 11 (d := d_frame_of) rfl
  have F_frame_of : Fun K "frame_of" "frame_of" s_frame_of (He.ga K "frame_of") fd_frame_of := He5.fun_of FD_frame_of
  have c_frame_of : Cl P w K mg base "frame_of" 3 (sp_frame_of K (He.ga K "System")) := ⟨He.ga K "frame_of", fd_frame_of, ["system", "word"], ok_frame_of (C := He.ga K "System") F_frame_of T c_first_frame c_frame_behind, He.glo_ok KX G (c.says.fact 11 (f := .glo "frame_of") rfl), F_frame_of.kp, F_frame_of.binds (ps := ["system", "word"]) fun _ _ _ _ _ _ us hl => match us, hl with | [_, _], _ => rfl⟩
  obtain ⟨fd_is_below, FD_is_below⟩ := c.says.def_ 2 (d := d_is_below) rfl
  have F_is_below : Fun K "is_below" "is_below" s_is_below (He.ga K "is_below") fd_is_below := He5.fun_of FD_is_below
  have c_is_below : Cl P w K mg base "is_below" 1 (sp_is_below K (He.ga K "System")) := ⟨He.ga K "is_below", fd_is_below, ["whole", "part"], ok_is_below (C := He.ga K "System") F_is_below T, He.glo_ok KX G (c.says.fact 2 (f := .glo "is_below") rfl), F_is_below.kp, F_is_below.binds (ps := ["whole", "part"]) fun _ _ _ _ _ _ us hl => match us, hl with | [_, _], _ => rfl⟩
  obtain ⟨fd_is_row_below, FD_is_row_below⟩ := c.says.def_ 3 (d := d_is_row_below) rfl
  have F_is_row_below : Fun K "is_row_below" "is_row_below" s_is_row_below (He.ga K "is_row_below") fd_is_row_below := He5.fun_of FD_is_row_below
  have c_is_row_below : Cl P w K mg base "is_row_below" 2 (sp_is_row_below K (He.ga K "System")) := ⟨He.ga K "is_row_below", fd_is_row_below, ["system", "row"], ok_is_row_below (C := He.ga K "System") F_is_row_below T Ts c_is_below, He.glo_ok KX G (c.says.fact 3 (f := .glo "is_row_below") rfl), F_is_row_below.kp, F_is_row_below.binds (ps := ["system", "row"]) fun _ _ _ _ _ _ us hl => match us, hl with | [_, _], _ => rfl⟩
  obtain ⟨fd_is_left, FD_is_left⟩ := c.says.def_ 12 (d := d_is_left) rfl
  have F_is_left : Fun K "is_left" "is_left" s_is_left (He.ga K "is_left") fd_is_left := He5.fun_of FD_is_left
  have c_is_left : Cl P w K mg base "is_left" 3 (sp_is_left K (He.ga K "System")) := ⟨He.ga K "is_left", fd_is_left, ["system", "frame", "letter"], ok_is_left (C := He.ga K "System") F_is_left T c_is_row_below, He.glo_ok KX G (c.says.fact 12 (f := .glo "is_left") rfl), F_is_left.kp, F_is_left.binds (ps := ["system", "frame", "letter"]) fun _ _ _ _ _ _ us hl => match us, hl with | [_, _, _], _ => rfl⟩
  obtain ⟨fd_first_left, FD_first_left⟩ := c.says.def_ 13 (d := d_first_left) rfl
  have F_first_left : Fun K "first_left" "first_left" s_first_left (He.ga K "first_left") fd_first_left := He5.fun_of FD_first_left
  have FC_first_left : FunC K "first_left" "first_left" s_first_left (He.ga K "first_left") fd_first_left (He.cT K ("first_left", none)).1 := funC_of (p := ("first_left", none)) FD_first_left
  have c_first_left : Cl P w K mg base "first_left" 5 (sp_first_left (He.cT K ("first_left", none)).2 K (He.ga K "System")) := ⟨He.ga K "first_left", fd_first_left, ["system", "frame"], ok_first_left (C := He.ga K "System") FC_first_left TB T Ts c_is_left, He.glo_ok KX G (c.says.fact 13 (f := .glo "first_left") rfl), F_first_left.kp, F_first_left.binds (ps := ["system", "frame"]) fun _ _ _ _ _ _ us hl => match us, hl with | [_, _], _ => rfl⟩
  obtain ⟨fd_times_s, FD_times_s⟩ := c.says.def_ 6 (d := d_times_s) rfl
  have F_times_s : Fun K "times_s" "times_s" s_times_s (He.ga K "times_s") fd_times_s := He5.fun_of FD_times_s
  have c_times_s : Cl P w K mg base "times_s" 1 (sp_times_s K (He.ga K "System")) := ⟨He.ga K "times_s", fd_times_s, ["size", "row"], ok_times_s (C := He.ga K "System") F_times_s T, He.glo_ok KX G (c.says.fact 6 (f := .glo "times_s") rfl), F_times_s.kp, F_times_s.binds (ps := ["size", "row"]) fun _ _ _ _ _ _ us hl => match us, hl with | [_, _], _ => rfl⟩
  obtain ⟨fd_added_row, FD_added_row⟩ := c.says.def_ 7 (d := d_added_row) rfl
  have F_added_row : Fun K "added_row" "added_row" s_added_row (He.ga K "added_row") fd_added_row := He5.fun_of FD_added_row
  have c_added_row : Cl P w K mg base "added_row" 2 (sp_added_row K (He.ga K "System")) := ⟨He.ga K "added_row", fd_added_row, ["system", "row", "factor", "other"], ok_added_row (C := He.ga K "System") F_added_row T Ts c_times_s, He.glo_ok KX G (c.says.fact 7 (f := .glo "added_row") rfl), F_added_row.kp, F_added_row.binds (ps := ["system", "row", "factor", "other"]) fun _ _ _ _ _ _ us hl => match us, hl with | [_, _, _, _], _ => rfl⟩
  obtain ⟨fd_frame_ahead, FD_frame_ahead⟩ := c.says.def_ 10 (d := d_frame_ahead) rfl
  have F_frame_ahead : Fun K "frame_ahead" "frame_ahead" s_frame_ahead (He.ga K "frame_ahead") fd_frame_ahead := He5.fun_of FD_frame_ahead
  have c_frame_ahead : Cl P w K mg base "frame_ahead" 3 (sp_frame_ahead K (He.ga K "System")) := ⟨He.ga K "frame_ahead", fd_frame_ahead, ["system", "frame", "letter"], ok_frame_ahead (C := He.ga K "System") F_frame_ahead T Ts c_added_row, He.glo_ok KX G (c.says.fact 10 (f := .glo "frame_ahead") rfl), F_frame_ahead.kp, F_frame_ahead.binds (ps := ["system", "frame", "letter"]) fun _ _ _ _ _ _ us hl => match us, hl with | [_, _, _], _ => rfl⟩
  obtain ⟨fd_word_of_frame, FD_word_of_frame⟩ := c.says.def_ 14 (d := d_word_of_frame) rfl
  have F_word_of_frame : Fun K "word_of_frame" "word_of_frame" s_word_of_frame (He.ga K "word_of_frame") fd_word_of_frame := He5.fun_of FD_word_of_frame
  have c_word_of_frame : Cl P w K mg base "word_of_frame" 6 (sp_word_of_frame (He.cT K ("first_left", none)).2 K (He.ga K "System")) := ⟨He.ga K "word_of_frame", fd_word_of_frame, ["system", "frame"], ok_word_of_frame (C := He.ga K "System") F_word_of_frame T c_first_left c_frame_ahead, He.glo_ok KX G (c.says.fact 14 (f := .glo "word_of_frame") rfl), F_word_of_frame.kp, F_word_of_frame.binds (ps := ["system", "frame"]) fun _ _ _ _ _ _ us hl => match us, hl with | [_, _], _ => rfl⟩
  obtain ⟨fd_normal_in, FD_normal_in⟩ := c.says.def_ 20 (d := d_normal_in) rfl
  have F_normal_in : Fun K "normal_in" "normal_in" s_normal_in (He.ga K "normal_in") fd_normal_in := He5.fun_of FD_normal_in
  have c_normal_in : Cl P w K mg base "normal_in" 7 (sp_normal_in (He.cT K ("first_left", none)).2 K (He.ga K "System")) := ⟨He.ga K "normal_in", fd_normal_in, ["system", "word"], ok_normal_in (C := He.ga K "System") F_normal_in c_frame_of c_word_of_frame, He.glo_ok KX G (c.says.fact 20 (f := .glo "normal_in") rfl), F_normal_in.kp, F_normal_in.binds (ps := ["system", "word"]) fun _ _ _ _ _ _ us hl => match us, hl with | [_, _], _ => rfl⟩
  obtain ⟨fd_normal, FD_normal⟩ := c.says.def_ 24 (d := d_normal) rfl
  have F_normal : Fun K "normal" "normal" s_normal (He.ga K "normal") fd_normal := He5.fun_of FD_normal
  have c_normal : Cl P w K mg base "normal" 8 (sp_normal (He.cT K ("first_left", none)).2 K (He.ga K "System")) := ⟨He.ga K "normal", fd_normal, ["system", "word"], ok_normal (C := He.ga K "System") F_normal c_require_system_and_word c_normal_in, He.glo_ok KX G (c.says.fact 24 (f := .glo "normal") rfl), F_normal.kp, F_normal.binds (ps := ["system", "word"]) fun _ _ _ _ _ _ us hl => match us, hl with | [_, _], _ => rfl⟩
  obtain ⟨fd_length, FD_length⟩ := c.says.def_ 25 (d := d_length) rfl
  have F_length : Fun K "length" "length" s_length (He.ga K "length") fd_length := He5.fun_of FD_length
  have c_length : Cl P w K mg base "length" 8 (sp_length (He.cT K ("first_left", none)).2 K (He.ga K "System")) := ⟨He.ga K "length", fd_length, ["system", "word"], ok_length (C := He.ga K "System") F_length T c_require_system_and_word c_normal_in, He.glo_ok KX G (c.says.fact 25 (f := .glo "length") rfl), F_length.kp, F_length.binds (ps := ["system", "word"]) fun _ _ _ _ _ _ us hl => match us, hl with | [_, _], _ => rfl⟩
  obtain ⟨fd_is_shortest_in, FD_is_shortest_in⟩ := c.says.def_ 21 (d := d_is_shortest_in) rfl
  have F_is_shortest_in : Fun K "is_shortest_in" "is_shortest_in" s_is_shortest_in (He.ga K "is_shortest_in") fd_is_shortest_in := He5.fun_of FD_is_shortest_in
  have c_is_shortest_in : Cl P w K mg base "is_shortest_in" 8 (sp_is_shortest_in (He.cT K ("first_left", none)).2 K (He.ga K "System")) := ⟨He.ga K "is_shortest_in", fd_is_shortest_in, ["system", "word"], ok_is_shortest_in (C := He.ga K "System") F_is_shortest_in T c_normal_in, He.glo_ok KX G (c.says.fact 21 (f := .glo "is_shortest_in") rfl), F_is_shortest_in.kp, F_is_shortest_in.binds (ps := ["system", "word"]) fun _ _ _ _ _ _ us hl => match us, hl with | [_, _], _ => rfl⟩
  obtain ⟨fd_is_shortest, FD_is_shortest⟩ := c.says.def_ 26 (d := d_is_shortest) rfl
  have F_is_shortest : Fun K "is_shortest" "is_shortest" s_is_shortest (He.ga K "is_shortest") fd_is_shortest := He5.fun_of FD_is_shortest
  have c_is_shortest : Cl P w K mg base "is_shortest" 9 (sp_is_shortest (He.cT K ("first_left", none)).2 K (He.ga K "System")) := ⟨He.ga K "is_shortest", fd_is_shortest, ["system", "value"], ok_is_shortest (C := He.ga K "System") F_is_shortest c_require_system c_is_word_in c_is_shortest_in, He.glo_ok KX G (c.says.fact 26 (f := .glo "is_shortest") rfl), F_is_shortest.kp, F_is_shortest.binds (ps := ["system", "value"]) fun _ _ _ _ _ _ us hl => match us, hl with | [_, _], _ => rfl⟩
  obtain ⟨fd__law_grown, FD__law_grown⟩ := c.says.def_ 45 (d := d__law_grown) rfl
  have F__law_grown : Fun K "_law_grown" "_law_grown" s__law_grown (He.ga K "_law_grown") fd__law_grown := He5.fun_of FD__law_grown
  have c__law_grown : Cl P w K mg base "_law_grown" 2 (sp__law_grown K (He.ga K "System")) := ⟨He.ga K "_law_grown", fd__law_grown, ["_law_vat_here", "_law_letters", "_law_word_here"], ok__law_grown (C := He.ga K "System") F__law_grown T c__law_tap, He.glo_ok KX G (c.says.fact 45 (f := .glo "_law_grown") rfl), F__law_grown.kp, F__law_grown.binds (ps := ["_law_vat_here", "_law_letters", "_law_word_here"]) fun _ _ _ _ _ _ us hl => match us, hl with | [_, _, _], _ => rfl⟩
  obtain ⟨fd__law_can_be_less, FD__law_can_be_less⟩ := c.says.def_ 44 (d := d__law_can_be_less) rfl
  have F__law_can_be_less : Fun K "_law_can_be_less" "_law_can_be_less" s__law_can_be_less (He.ga K "_law_can_be_less") fd__law_can_be_less := He5.fun_of FD__law_can_be_less
  have c__law_can_be_less : Cl P w K mg base "_law_can_be_less" 5 (sp__law_can_be_less K (He.ga K "System")) := ⟨He.ga K "_law_can_be_less", fd__law_can_be_less, ["_law_factors_here", "_law_word_here"], ok__law_can_be_less (C := He.ga K "System") F__law_can_be_less T c__law_state, He.glo_ok KX G (c.says.fact 44 (f := .glo "_law_can_be_less") rfl), F__law_can_be_less.kp, F__law_can_be_less.binds (ps := ["_law_factors_here", "_law_word_here"]) fun _ _ _ _ _ _ us hl => match us, hl with | [_, _], _ => rfl⟩
  obtain ⟨fd__law_right, FD__law_right⟩ := c.says.def_ 46 (d := d__law_right) rfl
  have F__law_right : Fun K "_law_right" "_law_right" s__law_right (He.ga K "_law_right") fd__law_right := He5.fun_of FD__law_right
  obtain ⟨fd_is_bond_told, FD_is_bond_told⟩ := c.says.def_ 15 (d := d_is_bond_told) rfl
  have F_is_bond_told : Fun K "is_bond_told" "is_bond_told" s_is_bond_told (He.ga K "is_bond_told") fd_is_bond_told := He5.fun_of FD_is_bond_told
  have c_is_bond_told : Cl P w K mg base "is_bond_told" 3 (sp_is_bond_told K (He.ga K "System")) := ⟨He.ga K "is_bond_told", fd_is_bond_told, ["letters", "value"], ok_is_bond_told (C := He.ga K "System") F_is_bond_told T M2 c_is_within, He.glo_ok KX G (c.says.fact 15 (f := .glo "is_bond_told") rfl), F_is_bond_told.kp, F_is_bond_told.binds (ps := ["letters", "value"]) fun _ _ _ _ _ _ us hl => match us, hl with | [_, _], _ => rfl⟩
  obtain ⟨fd_are_bonds, FD_are_bonds⟩ := c.says.def_ 16 (d := d_are_bonds) rfl
  have F_are_bonds : Fun K "are_bonds" "are_bonds" s_are_bonds (He.ga K "are_bonds") fd_are_bonds := He5.fun_of FD_are_bonds
  have c_are_bonds : Cl P w K mg base "are_bonds" 4 (sp_are_bonds K (He.ga K "System")) := ⟨He.ga K "are_bonds", fd_are_bonds, ["letters", "value"], ok_are_bonds (C := He.ga K "System") F_are_bonds T c_is_bond_told, He.glo_ok KX G (c.says.fact 16 (f := .glo "are_bonds") rfl), F_are_bonds.kp, F_are_bonds.binds (ps := ["letters", "value"]) fun _ _ _ _ _ _ us hl => match us, hl with | [_, _], _ => rfl⟩
  obtain ⟨fd_factors_by, FD_factors_by⟩ := c.says.def_ 17 (d := d_factors_by) rfl
  have F_factors_by : Fun K "factors_by" "factors_by" s_factors_by (He.ga K "factors_by") fd_factors_by := He5.fun_of FD_factors_by
  have c_factors_by : Cl P w K mg base "factors_by" 1 (sp_factors_by K (He.ga K "System")) := ⟨He.ga K "factors_by", fd_factors_by, ["letters", "bonds"], ok_factors_by (C := He.ga K "System") F_factors_by T M2, He.glo_ok KX G (c.says.fact 17 (f := .glo "factors_by") rfl), F_factors_by.kp, F_factors_by.binds (ps := ["letters", "bonds"]) fun _ _ _ _ _ _ us hl => match us, hl with | [_, _], _ => rfl⟩
  obtain ⟨fd_init, FD_init⟩ := c.says.def_ 48 (d := d_init) rfl
  have I : Ini P w K mg base (He.ga K "System") (He.ma K (He.ga K "System") "__init__") fd_init := ⟨He.mkr_ok (c.says.fact 51 (f := .mkr "System") rfl), ok_init (C := He.ga K "System") FD_init T Ts M2 c_is_within c_are_bonds c_factors_by, bd_init FD_init⟩
  have c__law_right : Cl P w K mg base "_law_right" 10 (sp__law_right (He.cT K ("first_left", none)).2 K (He.ga K "System")) := ⟨He.ga K "_law_right", fd__law_right, ["_law_vat_here"], ok__law_right (C := He.ga K "System") F__law_right T M I c__law_system c__law_factors c__law_word c__law_taste c__law_state c__law_normal c_normal c_length c_is_shortest c__law_grown c__law_can_be_less, He.glo_ok KX G (c.says.fact 46 (f := .glo "_law_right") rfl), F__law_right.kp, F__law_right.binds (ps := ["_law_vat_here"]) fun _ _ _ _ _ _ us hl => match us, hl with | [_], _ => rfl⟩
  obtain ⟨fd_rows_, FD_rows_⟩ := c.says.def_ 49 (d := dm_rows) rfl
  have F_rows_ : Fun K "rows" "System.rows" s_System_rows (He5.wf K (He.ga K "System") "classmethod" "rows") fd_rows_ := He5.fun_of FD_rows_
  have ok_rows_ := ok_rows (P := P) (w := w) (base := base) (C := He.ga K "System") F_rows_ T M2 I c_is_within
  have b_rows_ := F_rows_.binds (ps := ["cls", "places"]) fun _ _ _ _ _ _ us hl => match us, hl with | [_, _], _ => rfl
  obtain ⟨fd_signed_, FD_signed_⟩ := c.says.def_ 50 (d := dm_signed) rfl
  have F_signed_ : Fun K "signed" "System.signed" s_System_signed (He5.wf K (He.ga K "System") "classmethod" "signed") fd_signed_ := He5.fun_of FD_signed_
  have ok_signed_ := ok_signed (P := P) (w := w) (base := base) (C := He.ga K "System") F_signed_ T M2 I c_is_within
  have b_signed_ := F_signed_.binds (ps := ["cls", "places"]) fun _ _ _ _ _ _ us hl => match us, hl with | [_, _], _ => rfl
  obtain ⟨fd_polygon_, FD_polygon_⟩ := c.says.def_ 51 (d := dm_polygon) rfl
  have F_polygon_ : Fun K "polygon" "System.polygon" s_System_polygon (He5.wf K (He.ga K "System") "classmethod" "polygon") fd_polygon_ := He5.fun_of FD_polygon_
  have ok_polygon_ := ok_polygon (P := P) (w := w) (base := base) (C := He.ga K "System") F_polygon_ T M2 I c_is_within
  have b_polygon_ := F_polygon_.binds (ps := ["cls", "bond"]) fun _ _ _ _ _ _ us hl => match us, hl with | [_, _], _ => rfl
  obtain ⟨fd_ring_, FD_ring_⟩ := c.says.def_ 52 (d := dm_ring) rfl
  have F_ring_ : Fun K "ring" "System.ring" s_System_ring (He5.wf K (He.ga K "System") "classmethod" "ring") fd_ring_ := He5.fun_of FD_ring_
  have ok_ring_ := ok_ring (P := P) (w := w) (base := base) (C := He.ga K "System") F_ring_ T M2 I c_is_within
  have b_ring_ := F_ring_.binds (ps := ["cls", "letters"]) fun _ _ _ _ _ _ us hl => match us, hl with | [_, _], _ => rfl
  have F_law : Fun K "law" "law" s_law (He.ga K "law") fd_law := He5.fun_of FD_law
  exact ok_law (C := He.ga K "System") F_law T M c__law_vat c__law_right c_normal c_length c_is_shortest rd ⟨He5.cmet_of (wr "rows" (cmN_rows)).1 (wr "rows" (cmN_rows)).2, raw0 ok_rows_ b_rows_⟩ ⟨He5.cmet_of (wr "signed" (cmN_signed)).1 (wr "signed" (cmN_signed)).2, raw0 ok_signed_ b_signed_⟩ ⟨He5.cmet_of (wr "polygon" (cmN_polygon)).1 (wr "polygon" (cmN_polygon)).2, raw0 ok_polygon_ b_polygon_⟩ ⟨He5.cmet_of (wr "ring" (cmN_ring)).1 (wr "ring" (cmN_ring)).2, raw0 ok_ring_ b_ring_⟩

theorem lawU {l : PySem.W.OpenLaw} {w : World} {K : PySem.W.Frag} {h : Heap} {mg : Str → Option Value} {fa : Addr} (KX : K.In h) (G : h.Ns mainGlobals mg) (c : SaysU faU fnU tfU h K) (hfa : mg "law" = some (.ref fa)) : LamX.LawAtS l w K CX0 11 63 "_law_script" mg fa h := by
  have e := hfa.symm.trans (He.glo_ok KX G (c.says.fact 47 (f := .glo "law") rfl))
  cases e
  obtain ⟨fd, FD⟩ := c.says.def_ 47 (d := d_law) rfl
  have b := FunD.bindsA (ps := ["_law_script"]) FD fun _ _ _ _ _ _ us hl => match us, hl with | [_], _ => rfl
  refine ⟨fd, [He.cT K ("first_left", none)], sp_law (He.cT K ("first_left", none)).2 K (He.ga K "System"), ?_, ?_, ?_, fun s u => b s [u] rfl, ?_, ?_⟩
  · intro p hp
    rw [List.mem_singleton.mp hp]
    exact c.empty _ (by simp [tfU])
  · intro p hp
    rw [List.mem_singleton.mp hp]
    exact c.out _ (by simp [tfU])
  · intro p hp
    rw [List.mem_singleton.mp hp]
    exact PySem.W.codeHd_of_K KX (c.hd _ (by simp [tfU]))
  · intro H a ns _ _ hH hS
    exact ⟨a, ns, rfl, hS, ⟨#[], hH _ (by simp), by trivial⟩, fun _ => rfl⟩
  · intro base BX BG TB
    exact factsU KX G c (TB _ (by simp)) FD
end UW
namespace UW
open PySem PySem.Spec PyProof.Rows L2 Evl StX SlX ClX RZ
/-- the top's run, for each answer of the one row that it asks -/
theorem runF (w : World) : HandSHeadRun.RunEq RU qU hkU obU 60000 looseN (w.withFollow "special-get-raises" false) := by
  intro os
  kernel_rfl
theorem runT (w : World) : HandSHeadRun.RunEq RU qU hkU obU 60000 looseN (w.withFollow "special-get-raises" true) := by
  intro os
  kernel_rfl
theorem runU (w : World) : HandSHeadRun.RunEq RU qU hkU obU 60000 looseN w := PySem.W.byRow2 "special-get-raises" (P := fun w => HandSHeadRun.RunEq RU qU hkU obU 60000 looseN w) runF runT w
end UW
open PySem PySem.W PySem.Calls PyProof.Rows
theorem PySem.Challenge.cw_underwords_k06_whole_normal_words_by_roo_holds : PySem.Challenge.rw_underwords_k06_whole_normal_words_by_roo.Holds := by
  w_on; o_law
  refine HandSHeadRun.head_any (r := OpenLaw.row PySem.Challenge.rw_underwords_k06_whole_normal_words_by_roo) (q := UW.qU) (H := UW.hkU) (ob := UW.obU) (M := 60000) (loose := UW.looseN) (d := HandSHeadRun.topDef (OpenLaw.row PySem.Challenge.rw_underwords_k06_whole_normal_words_by_roo).prog 69) (kwd := []) UW.obU_eq
    (by kernel_rfl) (fun s => by kernel_rfl) UW.runU (by kernel_rfl) (by kernel_rfl) (by kernel_rfl) (by rfl) (by first | assumption | decide +kernel) (by decide +kernel) ⟨rfl, rfl, rfl, rfl, rfl, by decide +kernel⟩ ?hw ?hc
  case hw => w_witness2
  case hc =>
    refine LamX.walk_ofTsE (l := PySem.Challenge.rw_underwords_k06_whole_normal_words_by_roo) (n := 63) (k := 11) (x := "_law_script") (CX := fun _ => L2.CX0) rfl (by decide) (by kernel_rfl) ⟨rfl, by decide, by decide⟩ ?F (fun _ _ _ _ _ z => z)
    intro w mg fa h Y G hmg0
    obtain ⟨K, KX, c⟩ := Y
    have hmg : mg ("law" : PySem.Str) = some (.ref fa) := by
      have e : (HandSHeadRun.topDef (OpenLaw.row PySem.Challenge.rw_underwords_k06_whole_normal_words_by_roo).prog 69).name = ("law" : PySem.Str) := by kernel_rfl
      rw [← e]
      exact hmg0
    exact ⟨K, KX, UW.lawU KX G c hmg⟩
