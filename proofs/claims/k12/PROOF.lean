import PyProof.Rows.All
import Wide.All
import OpenK.AllK
import Wide.FinOn
import PySem.Challenge.RW_oddscall_k12_whole_floors_and_order
import HandS.ForExc
import HandS.Comp
import HandS.Wide
import HandS.Gcd
import HandS.IsInst
import HandS.Style
import HandS.ExcInit
import HandS.ExcField
import Flt.RightSqrt
import HandS.Codes
set_option Elab.async false
set_option linter.all false
set_option maxRecDepth 100000
namespace K12

/-- the sign of a rational -/
def sg (x : Rat) : Int := if 0 < x then 1 else if x < 0 then -1 else 0
theorem sg_pos {x : Rat} (h : 0 < x) : sg x = 1 := by unfold sg; rw [if_pos h]
theorem sg_neg {x : Rat} (h : x < 0) : sg x = -1 := by unfold sg; rw [if_neg (by grind), if_pos h]
theorem sg_zero : sg 0 = 0 := by unfold sg; rw [if_neg (by grind), if_neg (by grind)]
theorem sg_cases (x : Rat) : (0 < x ∧ sg x = 1) ∨ (x < 0 ∧ sg x = -1) ∨ (x = 0 ∧ sg x = 0) := by
  by_cases h : 0 < x
  · exact .inl ⟨h, sg_pos h⟩
  · by_cases h2 : x < 0
    · exact .inr (.inl ⟨h2, sg_neg h2⟩)
    · have e : x = 0 := by grind
      exact .inr (.inr ⟨e, by rw [e]; exact sg_zero⟩)
def sgI (n : Int) : Int := if 0 < n then 1 else if n < 0 then -1 else 0

/-- the sign of a + s * sqrt P -/
def S1 (a : Rat) (s : Int) (P : Rat) : Int := if s = 0 ∨ sg a = s then sg a else if sg a = 0 then s else sg a * sg (a * a - P)
def S2 (s1 : Int) (P1 : Rat) (s2 : Int) (P2 : Rat) : Int := if s1 = 0 ∨ s2 = 0 ∨ s1 = s2 then sgI (s1 + s2) else s1 * sg (P1 - P2)
def S3 (r : Rat) (s1 : Int) (P1 : Rat) (s2 : Int) (P2 : Rat) : Int :=
  if sg r = 0 ∨ S2 s1 P1 s2 P2 = 0 ∨ sg r = S2 s1 P1 s2 P2 then sgI (sg r + S2 s1 P1 s2 P2) else sg r * S1 (r * r - (P1 + P2)) (-(s1 * s2)) (4 * (P1 * P2))

theorem mp {a b : Rat} (h : 0 < a) (h' : 0 < b) : 0 < a * b := Rat.mul_pos h h'
theorem mnn {a b : Rat} (h : 0 ≤ a) (h' : 0 ≤ b) : 0 ≤ a * b := Rat.mul_nonneg h h'

theorem sqn (a : Rat) : 0 ≤ a * a := by
  by_cases h : 0 ≤ a
  · exact mnn h h
  · have := mnn (a := -a) (b := -a) (by grind) (by grind)
    grind
/-- squares of ordered numbers -/
theorem sq_lt {a b : Rat} (h0 : 0 ≤ a) (h : a < b) : a * a < b * b := by
  have h1 := mp (a := b - a) (b := b + a) (by grind) (by grind)
  grind
theorem sq_le {a b : Rat} (h0 : 0 ≤ a) (h : a ≤ b) : a * a ≤ b * b := by
  have h1 := mnn (a := b - a) (b := b + a) (by grind) (by grind)
  grind
theorem lt_of_sq {a b : Rat} (h0 : 0 ≤ b) (h : a * a < b * b) : a < b := by
  have := fun (q : b ≤ a) => sq_le h0 q
  grind
/-- what S1 < 0 says -/
theorem S1_neg1 {a P : Rat} (h : S1 a 1 P < 0) : a < 0 ∧ P < a * a := by
  unfold S1 at h
  rcases sg_cases a with ⟨h1, e⟩ | ⟨h1, e⟩ | ⟨h1, e⟩ <;> rw [e] at h <;> simp at h
  rcases sg_cases (a * a - P) with ⟨h2, e2⟩ | ⟨h2, e2⟩ | ⟨h2, e2⟩ <;> rw [e2] at h <;> simp at h
  exact ⟨h1, by grind⟩
theorem S1_le1 {a P : Rat} (h : S1 a 1 P ≤ 0) : a < 0 ∧ P ≤ a * a := by
  unfold S1 at h
  rcases sg_cases a with ⟨h1, e⟩ | ⟨h1, e⟩ | ⟨h1, e⟩ <;> rw [e] at h <;> simp at h
  rcases sg_cases (a * a - P) with ⟨h2, e2⟩ | ⟨h2, e2⟩ | ⟨h2, e2⟩ <;> rw [e2] at h <;> simp at h
  all_goals exact ⟨h1, by grind⟩
theorem S1_neg2 {a P : Rat} (h : S1 a (-1) P < 0) : a ≤ 0 ∨ (0 < a ∧ a * a < P) := by
  unfold S1 at h
  rcases sg_cases a with ⟨h1, e⟩ | ⟨h1, e⟩ | ⟨h1, e⟩ <;> rw [e] at h <;> simp at h
  · rcases sg_cases (a * a - P) with ⟨h2, e2⟩ | ⟨h2, e2⟩ | ⟨h2, e2⟩ <;> rw [e2] at h <;> simp at h
    exact .inr ⟨h1, by grind⟩
  all_goals exact .inl (by grind)
theorem S1_le2 {a P : Rat} (h : S1 a (-1) P ≤ 0) : a ≤ 0 ∨ (0 < a ∧ a * a ≤ P) := by
  unfold S1 at h
  rcases sg_cases a with ⟨h1, e⟩ | ⟨h1, e⟩ | ⟨h1, e⟩ <;> rw [e] at h <;> simp at h
  · rcases sg_cases (a * a - P) with ⟨h2, e2⟩ | ⟨h2, e2⟩ | ⟨h2, e2⟩ <;> rw [e2] at h <;> simp at h
    all_goals exact .inr ⟨h1, by grind⟩
  all_goals exact .inl (by grind)
theorem S1_neg0 {a P : Rat} (h : S1 a 0 P < 0) : a < 0 := by
  unfold S1 at h
  rcases sg_cases a with ⟨h1, e⟩ | ⟨h1, e⟩ | ⟨h1, e⟩ <;> rw [e] at h <;> simp at h
  exact h1
theorem S1_le0 {a P : Rat} (h : S1 a 0 P ≤ 0) : a ≤ 0 := by
  unfold S1 at h
  rcases sg_cases a with ⟨h1, e⟩ | ⟨h1, e⟩ | ⟨h1, e⟩ <;> rw [e] at h <;> simp at h
  all_goals grind
/-- .. and what gives S1 -/
theorem S1_is1 {a P : Rat} (h : 0 ≤ a ∨ (a < 0 ∧ a * a < P)) : S1 a 1 P = 1 := by
  unfold S1
  rcases sg_cases a with ⟨h1, e⟩ | ⟨h1, e⟩ | ⟨h1, e⟩ <;> rw [e] <;> simp
  rw [sg_neg (by grind)]; rfl
theorem S1_ism1 {a P : Rat} (h : a < 0) (h2 : P < a * a) : S1 a 1 P = -1 := by
  unfold S1
  rw [sg_neg h, sg_pos (by grind)]; rfl
theorem S1_is1' {a P : Rat} (h : 0 < a) (h2 : P < a * a) : S1 a (-1) P = 1 := by
  unfold S1
  rw [sg_pos h, sg_pos (by grind)]; rfl
theorem S1_ism1' {a P : Rat} (h : a ≤ 0 ∨ (0 < a ∧ a * a < P)) : S1 a (-1) P = -1 := by
  unfold S1
  rcases sg_cases a with ⟨h1, e⟩ | ⟨h1, e⟩ | ⟨h1, e⟩ <;> rw [e] <;> simp
  rw [sg_neg (by grind)]
end K12

namespace K12
/-- S2's cases -/
theorem S2_11 {P1 P2 : Rat} : S2 1 P1 1 P2 = 1 := rfl
theorem S2_mm {P1 P2 : Rat} : S2 (-1) P1 (-1) P2 = -1 := rfl
theorem S2_1m {P1 P2 : Rat} : S2 1 P1 (-1) P2 = sg (P1 - P2) := by unfold S2; simp
theorem S2_m1 {P1 P2 : Rat} : S2 (-1) P1 1 P2 = -sg (P1 - P2) := by unfold S2; simp

theorem S3_of_le {r : Rat} {s1 s2 : Int} {P1 P2 : Rat} (h : r ≤ 0) (e : S2 s1 P1 s2 P2 = -1) : S3 r s1 P1 s2 P2 = -1 := by
  unfold S3
  rw [e]
  rcases sg_cases r with ⟨h1, q⟩ | ⟨h1, q⟩ | ⟨h1, q⟩
  · grind
  · rw [q]; rfl
  · rw [q]; rfl
theorem S3_of_lt0 {r : Rat} {s1 s2 : Int} {P1 P2 : Rat} (h : r < 0) (e : S2 s1 P1 s2 P2 = 0) : S3 r s1 P1 s2 P2 = -1 := by
  unfold S3
  rw [e, sg_neg h]; rfl
theorem S3_of_neg {r : Rat} {s1 s2 : Int} {P1 P2 : Rat} (h : r < 0) (e : S2 s1 P1 s2 P2 = 1) (k : S1 (r * r - (P1 + P2)) (-(s1 * s2)) (4 * (P1 * P2)) = 1) : S3 r s1 P1 s2 P2 = -1 := by
  unfold S3
  rw [e, sg_neg h, k]; rfl
theorem S3_of_pos {r : Rat} {s1 s2 : Int} {P1 P2 : Rat} (h : 0 < r) (e : S2 s1 P1 s2 P2 = -1) (k : S1 (r * r - (P1 + P2)) (-(s1 * s2)) (4 * (P1 * P2)) = -1) : S3 r s1 P1 s2 P2 = -1 := by
  unfold S3
  rw [e, sg_pos h, k]; rfl

/-- a sqrt pair of one sign: both to the right -/
theorem tot_11 {a b P Q : Rat} (hP : 0 < P) (hQ : 0 < Q) (ha : a < 0) (ha2 : P < a * a) (hb : b < 0) (hb2 : Q ≤ b * b) : S3 (a + b) 1 P 1 Q = -1 := by
  refine S3_of_neg (by grind) S2_11 ?_
  have h1 : 0 < a * b := by have := mp (a := -a) (b := -b) (by grind) (by grind); grind
  have hX : 2 * (a * b) < (a + b) * (a + b) - (P + Q) := by grind
  refine S1_is1' (by grind) ?_
  have h2 := sq_lt (by grind) hX
  have h3 := mnn (a := a * a - P) (b := b * b) (by grind) (sqn b)
  have h4 := mnn (a := P) (b := b * b - Q) (by grind) (by grind)
  grind
theorem tot_mm {a b P Q : Rat} (hP : 0 < P) (hQ : 0 < Q) (ha : a ≤ 0 ∨ (0 < a ∧ a * a < P)) (hb : b ≤ 0 ∨ (0 < b ∧ b * b ≤ Q)) : S3 (a + b) (-1) P (-1) Q = -1 := by
  by_cases hr : a + b ≤ 0
  · exact S3_of_le hr S2_mm
  · refine S3_of_pos (by grind) S2_mm (S1_ism1' ?_)
    rcases ha with ha | ⟨ha, ha2⟩
    · rcases hb with hb | ⟨hb, hb2⟩
      · grind
      · have h1 := sq_le (a := a + b) (b := b) (by grind) (by grind)
        exact .inl (by grind)
    · rcases hb with hb | ⟨hb, hb2⟩
      · have h1 := sq_le (a := a + b) (b := a) (by grind) (by grind)
        exact .inl (by grind)
      · by_cases hX : (a + b) * (a + b) - (P + Q) ≤ 0
        · exact .inl hX
        · refine .inr ⟨by grind, ?_⟩
          have h0 := mp ha hb
          have h2 := sq_lt (a := (a + b) * (a + b) - (P + Q)) (b := 2 * (a * b)) (by grind) (by grind)
          have h3 := mnn (a := P - a * a) (b := b * b) (by grind) (sqn b)
          have h4 := mnn (a := P) (b := Q - b * b) (by grind) (by grind)
          grind
/-- the core of the mixed case, P > Q: r < 0, X < 0 -> X^2 < 4PQ -/
theorem mix_hi {r P Q : Rat} {b : Rat} (hP : 0 < P) (hQ : 0 < Q) (hPQ : Q < P) (hr : r < 0) (hX : r * r < P + Q) (h1 : P - Q - r * r < 2 * (b * (-r))) (hb : 0 < b) (hb2 : b * b ≤ Q) : (P + Q - r * r) * (P + Q - r * r) < 4 * (P * Q) := by
  have e : (P + Q - r * r) * (P + Q - r * r) = 4 * (P * Q) + ((P - Q - r * r) * (P - Q - r * r) - 4 * (Q * (r * r))) := by grind
  have hrr : 0 < r * r := by have := mp (a := -r) (b := -r) (by grind) (by grind); grind
  by_cases hz : 0 ≤ P - Q - r * r
  · have h2 := sq_lt hz h1
    have h3 := mnn (a := Q - b * b) (b := r * r) (by grind) (by grind)
    grind
  · have h2 := mp (a := 2 * Q - (r * r - P + Q)) (b := r * r - P + Q) (by grind) (by grind)
    have h3 := mp (a := r * r - (r * r - P + Q)) (b := 2 * Q) (by grind) (by grind)
    have h4 := mp hQ hrr
    grind
theorem tot_1m {a b P Q : Rat} (hP : 0 < P) (hQ : 0 < Q) (ha : a < 0) (ha2 : P < a * a) (hb : b ≤ 0 ∨ (0 < b ∧ b * b ≤ Q)) : S3 (a + b) 1 P (-1) Q = -1 := by
  rcases sg_cases (P - Q) with ⟨h1, e⟩ | ⟨h1, e⟩ | ⟨h1, e⟩
  · -- Q < P
    have hr : a + b < 0 := by
      rcases hb with hb | ⟨hb, hb2⟩
      · grind
      · have := lt_of_sq (a := b) (b := -a) (by grind) (by grind)
        grind
    refine S3_of_neg hr (by rw [S2_1m, e]) (S1_is1 ?_)
    by_cases hX : 0 ≤ (a + b) * (a + b) - (P + Q)
    · exact .inl hX
    · refine .inr ⟨by grind, ?_⟩
      rcases hb with hb | ⟨hb, hb2⟩
      · have h2 := sq_le (a := -a) (b := -(a + b)) (by grind) (by grind)
        have h3 := sq_lt (a := P + Q - (a + b) * (a + b)) (b := Q) (by grind) (by grind)
        have h4 := mp (a := P - Q) (b := Q) (by grind) hQ
        have h5 := mp hP hQ
        grind
      · have := mix_hi (r := a + b) (b := b) hP hQ (by grind) hr (by grind) (by grind) hb hb2
        grind
  · -- P < Q
    by_cases hr : a + b ≤ 0
    · exact S3_of_le hr (by rw [S2_1m, e])
    · refine S3_of_pos (by grind) (by rw [S2_1m, e]) ?_
      rcases hb with hb | ⟨hb, hb2⟩
      · grind
      · have h2 := sq_lt (a := a + b) (b := b) (by grind) (by grind)
        refine S1_ism1 (by grind) ?_
        have g1 := mp (a := a * a - P) (b := a * a - P) (by grind) (by grind)
        have g2 := mnn (a := Q - b * b) (b := Q - b * b) (by grind) (by grind)
        have g3 := mnn (a := a * a - P) (b := Q - b * b) (by grind) (by grind)
        have g4 := mnn (a := (-a) * (a + b)) (b := Q - b * b) (mnn (by grind) (by grind)) (by grind)
        have g5 := mp (a := b * (a + b)) (b := a * a - P) (mp (by grind) (by grind)) (by grind)
        have e1 : ((a + b) * (a + b) - (P + Q)) * ((a + b) * (a + b) - (P + Q)) = 4 * (P * Q) + ((a * a - P) * (a * a - P) + (Q - b * b) * (Q - b * b) + 2 * ((a * a - P) * (Q - b * b)) + 4 * ((-a) * (a + b) * (Q - b * b)) + 4 * (b * (a + b) * (a * a - P))) := by grind
        rw [e1]
        grind
  · -- equal
    refine S3_of_lt0 ?_ (by rw [S2_1m, e])
    rcases hb with hb | ⟨hb, hb2⟩
    · grind
    · have := lt_of_sq (a := b) (b := -a) (by grind) (by grind)
      grind
theorem tot_m1 {a b P Q : Rat} (hP : 0 < P) (hQ : 0 < Q) (ha : a ≤ 0 ∨ (0 < a ∧ a * a < P)) (hb : b < 0) (hb2 : Q ≤ b * b) : S3 (a + b) (-1) P 1 Q = -1 := by
  rcases sg_cases (P - Q) with ⟨h1, e⟩ | ⟨h1, e⟩ | ⟨h1, e⟩
  · -- Q < P
    by_cases hr : a + b ≤ 0
    · exact S3_of_le hr (by rw [S2_m1, e])
    · refine S3_of_pos (by grind) (by rw [S2_m1, e]) ?_
      rcases ha with ha | ⟨ha, ha2⟩
      · grind
      · have h2 := sq_lt (a := a + b) (b := a) (by grind) (by grind)
        refine S1_ism1 (by grind) ?_
        have g1 := mnn (a := b * b - Q) (b := b * b - Q) (by grind) (by grind)
        have g2 := mp (a := P - a * a) (b := P - a * a) (by grind) (by grind)
        have g3 := mnn (a := b * b - Q) (b := P - a * a) (by grind) (by grind)
        have g4 := mp (a := (-b) * (a + b)) (b := P - a * a) (mp (by grind) (by grind)) (by grind)
        have g5 := mnn (a := a * (a + b)) (b := b * b - Q) (mnn (by grind) (by grind)) (by grind)
        have e1 : ((a + b) * (a + b) - (P + Q)) * ((a + b) * (a + b) - (P + Q)) = 4 * (P * Q) + ((b * b - Q) * (b * b - Q) + (P - a * a) * (P - a * a) + 2 * ((b * b - Q) * (P - a * a)) + 4 * ((-b) * (a + b) * (P - a * a)) + 4 * (a * (a + b) * (b * b - Q))) := by grind
        rw [e1]
        grind
  · -- P < Q
    have hr : a + b < 0 := by
      rcases ha with ha | ⟨ha, ha2⟩
      · grind
      · have := lt_of_sq (a := a) (b := -b) (by grind) (by grind)
        grind
    refine S3_of_neg hr (by rw [S2_m1, e]; rfl) (S1_is1 ?_)
    by_cases hX : 0 ≤ (a + b) * (a + b) - (P + Q)
    · exact .inl hX
    · refine .inr ⟨by grind, ?_⟩
      rcases ha with ha | ⟨ha, ha2⟩
      · have h2 := sq_le (a := -b) (b := -(a + b)) (by grind) (by grind)
        have h3 := sq_le (a := P + Q - (a + b) * (a + b)) (b := P) (by grind) (by grind)
        have h4 := mp (a := Q - P) (b := P) (by grind) hP
        have h5 := mp hP hQ
        grind
      · have h6 := mix_hi (r := a + b) (b := a) hQ hP (by grind) hr (by grind) (by grind) ha (by grind)
        grind
  · refine S3_of_lt0 ?_ (by rw [S2_m1, e]; rfl)
    rcases ha with ha | ⟨ha, ha2⟩
    · grind
    · have := lt_of_sq (a := a) (b := -b) (by grind) (by grind)
      grind
end K12

namespace K12
/-- a sign and the square of the irrational part -/
def Ok (s : Int) (P : Rat) : Prop := (s = 0 ∧ P = 0) ∨ (s = 1 ∧ 0 < P) ∨ (s = -1 ∧ 0 < P)
theorem S2_0 {P1 P2 : Rat} {t : Int} : S2 0 P1 t P2 = sgI t := by unfold S2; simp
theorem S2_r0 {P1 P2 : Rat} {t : Int} : S2 t P1 0 P2 = sgI t := by unfold S2; simp
theorem S1_0 {a P : Rat} : S1 a 0 P = sg a := by unfold S1; simp
theorem tot_lt {a b P Q : Rat} {s t : Int} (hs : Ok s P) (ht : Ok t Q) (ha : S1 a s P < 0) (hb : S1 b t Q ≤ 0) : S3 (a + b) s P t Q = -1 := by
  rcases hs with ⟨rfl, rfl⟩ | ⟨rfl, hP⟩ | ⟨rfl, hP⟩
  · have ha := S1_neg0 ha
    rcases ht with ⟨rfl, rfl⟩ | ⟨rfl, hQ⟩ | ⟨rfl, hQ⟩
    · have hb := S1_le0 hb
      exact S3_of_lt0 (by grind) S2_0
    · obtain ⟨hb, hb2⟩ := S1_le1 hb
      refine S3_of_neg (by grind) S2_0 ?_
      have h1 := sq_lt (a := -b) (b := -(a + b)) (by grind) (by grind)
      rw [Int.zero_mul, Int.neg_zero, S1_0, sg_pos (by grind)]
    · have hb := S1_le2 hb
      by_cases hr : a + b ≤ 0
      · exact S3_of_le hr S2_0
      · refine S3_of_pos (by grind) S2_0 ?_
        rcases hb with hb | ⟨hb, hb2⟩
        · grind
        · have h1 := sq_lt (a := a + b) (b := b) (by grind) (by grind)
          rw [Int.zero_mul, Int.neg_zero, S1_0, sg_neg (by grind)]
  · obtain ⟨ha, ha2⟩ := S1_neg1 ha
    rcases ht with ⟨rfl, rfl⟩ | ⟨rfl, hQ⟩ | ⟨rfl, hQ⟩
    · have hb := S1_le0 hb
      refine S3_of_neg (by grind) S2_r0 ?_
      have h1 := sq_le (a := -a) (b := -(a + b)) (by grind) (by grind)
      rw [Int.mul_zero, Int.neg_zero, S1_0, sg_pos (by grind)]
    · obtain ⟨hb, hb2⟩ := S1_le1 hb
      exact tot_11 hP hQ ha ha2 hb hb2
    · exact tot_1m hP hQ ha ha2 (S1_le2 hb)
  · have ha := S1_neg2 ha
    rcases ht with ⟨rfl, rfl⟩ | ⟨rfl, hQ⟩ | ⟨rfl, hQ⟩
    · have hb := S1_le0 hb
      by_cases hr : a + b ≤ 0
      · exact S3_of_le hr S2_r0
      · refine S3_of_pos (by grind) S2_r0 ?_
        rcases ha with ha | ⟨ha, ha2⟩
        · grind
        · have h1 := sq_le (a := a + b) (b := a) (by grind) (by grind)
          rw [Int.mul_zero, Int.neg_zero, S1_0, sg_neg (by grind)]
    · obtain ⟨hb, hb2⟩ := S1_le1 hb
      exact tot_m1 hP hQ ha hb hb2
    · exact tot_mm hP hQ ha (S1_le2 hb)
theorem sg_neg_eq (x : Rat) : sg (-x) = -sg x := by
  rcases sg_cases x with ⟨h, e⟩ | ⟨h, e⟩ | ⟨h, e⟩ <;> rw [e]
  · exact sg_neg (by grind)
  · rw [sg_pos (by grind)]; rfl
  · rw [h, show (-0 : Rat) = 0 by grind, sg_zero]; rfl
theorem sgI_neg (n : Int) : sgI (-n) = -sgI n := by unfold sgI; split <;> split <;> (try split) <;> (try split) <;> omega
theorem S1_opp {a P : Rat} {s : Int} : S1 (-a) (-s) P = -S1 a s P := by
  unfold S1
  rw [sg_neg_eq, show (-a) * (-a) - P = a * a - P by grind]
  rcases sg_cases a with ⟨h, e⟩ | ⟨h, e⟩ | ⟨h, e⟩ <;> rw [e] <;> by_cases h0 : s = 0
  all_goals (first | (subst h0; simp; done) | skip)
  all_goals
    by_cases h1 : s = 1
    · subst h1; simp
    · by_cases h2 : s = -1
      · subst h2; simp
      · have h3 : (1 : Int) ≠ s := fun z => h1 z.symm
        have h4 : (-1 : Int) ≠ s := fun z => h2 z.symm
        have h5 : (1 : Int) ≠ -s := by omega
        have h6 : (-1 : Int) ≠ -s := by omega
        have h7 : (0 : Int) ≠ s := fun z => h0 z.symm
        simp [h0, h3, h4, h5, h6, h7]
theorem S2_opp {P Q : Rat} {s t : Int} : S2 (-s) P (-t) Q = -S2 s P t Q := by
  unfold S2
  by_cases h : s = 0 ∨ t = 0 ∨ s = t
  · rw [if_pos h, if_pos (by omega), show -s + -t = -(s + t) by omega, sgI_neg]
  · rw [if_neg h, if_neg (by omega), Int.neg_mul]
theorem S3_opp {r P Q : Rat} {s t : Int} : S3 (-r) (-s) P (-t) Q = -S3 r s P t Q := by
  unfold S3
  rw [S2_opp, sg_neg_eq, show (-r) * (-r) - (P + Q) = r * r - (P + Q) by grind, Int.neg_mul_neg]
  by_cases h : sg r = 0 ∨ S2 s P t Q = 0 ∨ sg r = S2 s P t Q
  · rw [if_pos h, if_pos (by omega), show -sg r + -S2 s P t Q = -(sg r + S2 s P t Q) by omega, sgI_neg]
  · rw [if_neg h, if_neg (by omega), Int.neg_mul]
theorem Ok.opp {P : Rat} {s : Int} (h : Ok s P) : Ok (-s) P := by
  rcases h with ⟨rfl, h⟩ | ⟨rfl, h⟩ | ⟨rfl, h⟩
  · exact .inl ⟨rfl, h⟩
  · exact .inr (.inr ⟨rfl, h⟩)
  · exact .inr (.inl ⟨rfl, h⟩)
theorem S3_swap {r P Q : Rat} {s t : Int} (hs : Ok s P) (ht : Ok t Q) : S3 r s P t Q = S3 r t Q s P := by
  have e : S2 s P t Q = S2 t Q s P := by
    rcases hs with ⟨rfl, h⟩ | ⟨rfl, h⟩ | ⟨rfl, h⟩ <;> rcases ht with ⟨rfl, h'⟩ | ⟨rfl, h'⟩ | ⟨rfl, h'⟩ <;> first | rfl | (rw [S2_1m, S2_m1, ← sg_neg_eq]; congr 1; grind) | (rw [S2_m1, S2_1m, ← sg_neg_eq]; congr 1; grind)
  unfold S3
  rw [e, show P + Q = Q + P by grind, show P * Q = Q * P by grind, Int.mul_comm s t]
/-- the first less than the second | greater, from a rational between them -/
theorem tot_less {a b P Q : Rat} {s t : Int} (hs : Ok s P) (ht : Ok t Q) (ha : S1 a s P < 0) (hb : 0 ≤ S1 b t Q) : S3 (a - b) s P (-t) Q = -1 := by
  have h := tot_lt (b := -b) (t := -t) hs ht.opp ha (by rw [S1_opp]; omega)
  rw [show a - b = a + -b by grind]
  exact h
theorem tot_more {a b P Q : Rat} {s t : Int} (hs : Ok s P) (ht : Ok t Q) (ha : 0 ≤ S1 a s P) (hb : S1 b t Q < 0) : S3 (a - b) s P (-t) Q = 1 := by
  have h := tot_less ht hs hb ha
  rw [S3_swap ht hs.opp] at h
  have h2 := S3_opp (r := a - b) (s := s) (P := P) (t := -t) (Q := Q)
  rw [show -(a - b) = b - a by grind, show - -t = t by omega, h] at h2
  omega
/-- the second a rational: its part is nothing -/
theorem tot_rat {r P : Rat} {s : Int} (hs : Ok s P) : S3 r s P 0 0 = S1 r s P := by
  unfold S3
  rw [S2_r0, show r * r - (P + 0) = r * r - P by grind, show P * 0 = 0 by grind, show 4 * (0 : Rat) = 0 by grind, Int.mul_zero, Int.neg_zero, S1_0]
  unfold S1
  rcases hs with ⟨rfl, h⟩ | ⟨rfl, h⟩ | ⟨rfl, h⟩ <;> rcases sg_cases r with ⟨h1, e⟩ | ⟨h1, e⟩ | ⟨h1, e⟩ <;> rw [e] <;> simp [sgI]
/-- scale -/
theorem sg_scale {k x : Rat} (hk : 0 < k) : sg (k * x) = sg x := by
  rcases sg_cases x with ⟨h, e⟩ | ⟨h, e⟩ | ⟨h, e⟩ <;> rw [e]
  · exact sg_pos (mp hk h)
  · refine sg_neg ?_
    have := mp (a := k) (b := -x) hk (by grind)
    grind
  · rw [h, show k * (0 : Rat) = 0 by grind]
    exact sg_zero
theorem S1_scale {k a P : Rat} {s : Int} (hk : 0 < k) : S1 (k * a) s (k * k * P) = S1 a s P := by
  unfold S1
  rw [sg_scale hk, show k * a * (k * a) - k * k * P = (k * k) * (a * a - P) by grind, sg_scale (mp hk hk)]
theorem sg_mul (x y : Rat) : sg (x * y) = sg x * sg y := by
  rcases sg_cases x with ⟨h, e⟩ | ⟨h, e⟩ | ⟨h, e⟩ <;> rw [e]
  · rw [sg_scale h]; omega
  · have := sg_scale (k := -x) (x := y) (by grind)
    rw [show -x * y = -(x * y) by grind, sg_neg_eq] at this
    omega
  · rw [h, show (0 : Rat) * y = 0 by grind, sg_zero]; omega
theorem sg_int (n : Int) : sg (n : Rat) = sgI n := by
  unfold sg sgI
  have h1 : (0 : Rat) < (n : Rat) ↔ 0 < n := by
    rw [← Rat.intCast_lt_intCast]; simp
  have h2 : (n : Rat) < 0 ↔ n < 0 := by
    rw [← Rat.intCast_lt_intCast]; simp
  simp only [h1, h2]
end K12

namespace K12
/-- a number of the program -/
inductive Num where
  | rat (n d : Int)
  | root (c b a w : Int)
def NotSq (n : Int) : Prop := ∀ s : Int, s * s ≠ n
def Num.Valid : Num → Prop
  | .rat n d => 0 < d ∧ Int.gcd n d = 1
  | .root c b a w => 0 < a ∧ Nat.gcd (Nat.gcd a.natAbs b.natAbs) c.natAbs = 1 ∧ 0 < b * b - 4 * a * c ∧ NotSq (b * b - 4 * a * c) ∧ (w = 0 ∨ w = 1)
/-- the law's own side of a number and n / d -/
def beside : Num → Int → Int → Int
  | .rat x y, n, d => sgI (x * d - n * y)
  | .root c b a w, n, d =>
    let here := c * d * d + b * n * d + a * n * n
    let side := 2 * a * n + b * d
    if w = 1 then (if side ≤ 0 ∨ here < 0 then 1 else -1) else (if 0 ≤ side ∨ here < 0 then -1 else 1)
def Num.X : Num → Rat
  | .rat n d => (n : Rat) / (d : Rat)
  | .root _ b a _ => ((-b : Int) : Rat) / ((2 * a : Int) : Rat)
def Num.S : Num → Int
  | .rat _ _ => 0
  | .root _ _ _ w => if w = 1 then 1 else -1
def Num.P : Num → Rat
  | .rat _ _ => 0
  | .root c b a _ => ((b * b - 4 * a * c : Int) : Rat) / ((4 * a * a : Int) : Rat)
theorem rpos {n : Int} (h : 0 < n) : (0 : Rat) < (n : Rat) := by
  have := Rat.intCast_lt_intCast.mpr h
  simpa using this
theorem rpos' {n : Int} (h : (0 : Rat) < (n : Rat)) : 0 < n := by
  have h' : ((0 : Int) : Rat) < (n : Rat) := by simpa using h
  exact Rat.intCast_lt_intCast.mp h'
theorem rdiv_pos {a b : Rat} (h : 0 < a) (h' : 0 < b) : 0 < a / b := by
  rw [Rat.div_def]
  exact mp h (Rat.inv_pos.mpr h')
theorem Num.ok {m : Num} (h : m.Valid) : Ok m.S m.P := by
  cases m with
  | rat n d => exact .inl ⟨rfl, rfl⟩
  | root c b a w =>
    obtain ⟨h1, _, h2, _, h3⟩ := h
    have e : 0 < (Num.root c b a w).P := rdiv_pos (rpos h2) (rpos (by have := Int.mul_pos (Int.mul_pos (by decide : (0 : Int) < 4) h1) h1; exact this))
    by_cases hw : w = 1
    · exact .inr (.inl ⟨if_pos hw, e⟩)
    · exact .inr (.inr ⟨if_neg hw, e⟩)
/-- d * d * D is no square -/
theorem notSq_scale {n d : Int} (h : NotSq n) (hd : 0 < d) : NotSq (d * d * n) := by
  intro s e
  have h1 : d.natAbs ^ 2 ∣ s.natAbs ^ 2 := by
    refine ⟨n.natAbs, ?_⟩
    have := congrArg Int.natAbs e
    rw [Int.natAbs_mul, Int.natAbs_mul, Int.natAbs_mul] at this
    rw [Nat.pow_two, Nat.pow_two]
    exact this
  have h2 : d.natAbs ∣ s.natAbs := (Nat.pow_dvd_pow_iff (by decide)).mp h1
  have h3 : d ∣ s := Int.natAbs_dvd_natAbs.mp h2
  obtain ⟨k, rfl⟩ := h3
  refine h k ?_
  have hdd : d * d ≠ 0 := Int.mul_ne_zero (by omega) (by omega)
  have e2 : d * d * (k * k) = d * d * n := by rw [← e]; grind
  exact Int.eq_of_mul_eq_mul_left hdd e2
/-- what the law's formula says of the sign -/
theorem beside_root {c b a w n d : Int} (h : (Num.root c b a w).Valid) (hd : 0 < d) :
    S1 ((-(2 * a * n + b * d) : Int) : Rat) (if w = 1 then 1 else -1) ((d * d * (b * b - 4 * a * c) : Int) : Rat) = beside (.root c b a w) n d := by
  obtain ⟨h1, _, h2, h4, h3⟩ := h
  have ns := notSq_scale h4 hd (2 * a * n + b * d)
  have e4 : (2 * a * n + b * d) * (2 * a * n + b * d) - d * d * (b * b - 4 * a * c) = 4 * a * (c * d * d + b * n * d + a * n * n) := by grind
  show _ = (if w = 1 then (if 2 * a * n + b * d ≤ 0 ∨ c * d * d + b * n * d + a * n * n < 0 then (1 : Int) else -1) else (if 0 ≤ 2 * a * n + b * d ∨ c * d * d + b * n * d + a * n * n < 0 then -1 else 1))
  generalize hside : 2 * a * n + b * d = side at *
  generalize c * d * d + b * n * d + a * n * n = here at *
  generalize d * d * (b * b - 4 * a * c) = DD at *
  have hne : here ≠ 0 := fun z => ns (by rw [z, Int.mul_zero] at e4; omega)
  have h4a : 0 < 4 * a := by omega
  have neg1 : here < 0 → side * side < DD := fun z => by
    have := Int.mul_neg_of_pos_of_neg h4a z
    omega
  have pos1 : ¬ here < 0 → DD < side * side := fun z => by
    have := Int.mul_pos h4a (show 0 < here by omega)
    omega
  have lt1 : ∀ {x y : Int}, x < y → (x : Rat) < (y : Rat) := fun z => Rat.intCast_lt_intCast.mpr z
  have le1 : ∀ {x y : Int}, x ≤ y → (x : Rat) ≤ (y : Rat) := fun z => Rat.intCast_le_intCast.mpr z
  have sq : ((-side : Int) : Rat) * ((-side : Int) : Rat) = ((side * side : Int) : Rat) := by
    rw [← Rat.intCast_mul, Int.neg_mul_neg]
  have z0 : ((0 : Int) : Rat) = 0 := by simp
  by_cases hw : w = 1
  · rw [if_pos hw, if_pos hw]
    by_cases hc : side ≤ 0 ∨ here < 0
    · rw [if_pos hc]
      refine S1_is1 ?_
      by_cases hs : side ≤ 0
      · refine .inl ?_
        have := le1 (show 0 ≤ -side by omega)
        rw [z0] at this; exact this
      · refine .inr ⟨?_, ?_⟩
        · have := lt1 (show -side < 0 by omega)
          rw [z0] at this; exact this
        · rw [sq]; exact lt1 (neg1 (by omega))
    · rw [if_neg hc]
      refine S1_ism1 ?_ ?_
      · have := lt1 (show -side < 0 by omega)
        rw [z0] at this; exact this
      · rw [sq]; exact lt1 (pos1 (by omega))
  · rw [if_neg hw, if_neg hw]
    by_cases hc : 0 ≤ side ∨ here < 0
    · rw [if_pos hc]
      refine S1_ism1' ?_
      by_cases hs : 0 ≤ side
      · refine .inl ?_
        have := le1 (show -side ≤ 0 by omega)
        rw [z0] at this; exact this
      · refine .inr ⟨?_, ?_⟩
        · have := lt1 (show 0 < -side by omega)
          rw [z0] at this; exact this
        · rw [sq]; exact lt1 (neg1 (by omega))
    · rw [if_neg hc]
      refine S1_is1' ?_ ?_
      · have := lt1 (show 0 < -side by omega)
        rw [z0] at this; exact this
      · rw [sq]; exact lt1 (pos1 (by omega))
theorem rne {n : Int} (h : 0 < n) : (n : Rat) ≠ 0 := by have := rpos h; grind
/-- the sign of a number and n / d, by the equation -/
theorem sign_beside {m : Num} (h : m.Valid) {n d : Int} (hd : 0 < d) : S1 (m.X - (n : Rat) / (d : Rat)) m.S m.P = beside m n d := by
  cases m with
  | rat x y =>
    have hy := h.1
    show S1 ((x : Rat) / (y : Rat) - (n : Rat) / (d : Rat)) 0 0 = sgI (x * d - n * y)
    rw [S1_0, ← sg_int, ← sg_scale (k := (y : Rat) * (d : Rat)) (mp (rpos hy) (rpos hd))]
    congr 1
    have h1 := rne hy
    have h2 := rne hd
    rw [Rat.intCast_sub, Rat.intCast_mul, Rat.intCast_mul]
    grind
  | root c b a w =>
    have ha := h.1
    rw [← beside_root h hd]
    have h2a : 0 < 2 * a * d := Int.mul_pos (by omega) hd
    show S1 (((-b : Int) : Rat) / ((2 * a : Int) : Rat) - (n : Rat) / (d : Rat)) (if w = 1 then 1 else -1) (((b * b - 4 * a * c : Int) : Rat) / ((4 * a * a : Int) : Rat)) = _
    rw [← S1_scale (rpos h2a)]
    have h1 := rne ha
    have h2 := rne hd
    congr 1
    · simp only [Rat.intCast_add, Rat.intCast_sub, Rat.intCast_mul, Rat.intCast_neg, Rat.intCast_ofNat]
      grind
    · simp only [Rat.intCast_add, Rat.intCast_sub, Rat.intCast_mul, Rat.intCast_neg, Rat.intCast_ofNat]
      grind
end K12

namespace K12
/-- size is the whole square root of (b b - 4 a c) q q -/
def IsRoot (z n : Int) : Prop := 0 ≤ z ∧ z * z ≤ n ∧ n < (z + 1) * (z + 1)
/-- floor_of, the root's size given -/
def Num.flo (m : Num) (q z : Int) : Int := match m with
  | .rat n d => n * q / d
  | .root _ b a w => if w = 1 then (z - b * q) / (2 * a) else (-z - 1 - b * q) / (2 * a)
theorem isq {x y : Int} (h0 : 0 ≤ x) (h : x ≤ y) : x * x ≤ y * y := Int.mul_le_mul h h h0 (by omega)
theorem floor_ok {m : Num} (h : m.Valid) {q z : Int} (hq : 0 < q) (hz : match m with | .rat _ _ => True | .root c b a _ => IsRoot z (q * q * (b * b - 4 * a * c))) :
    0 ≤ beside m (m.flo q z) q ∧ beside m (m.flo q z + 1) q < 0 := by
  cases m with
  | rat n d =>
    have hd := h.1
    show 0 ≤ sgI (n * q - n * q / d * d) ∧ sgI (n * q - (n * q / d + 1) * d) < 0
    have h1 := Int.emod_add_mul_ediv (n * q) d
    have h2 := Int.emod_nonneg (n * q) (show d ≠ 0 by omega)
    have h3 := Int.emod_lt_of_pos (n * q) hd
    have e1 : n * q / d * d = d * (n * q / d) := Int.mul_comm _ _
    have e2 : (n * q / d + 1) * d = d * (n * q / d) + d := by grind
    rw [e1, e2]
    generalize d * (n * q / d) = k at *
    generalize n * q = y at *
    unfold sgI
    constructor
    · split <;> (try split) <;> omega
    · split <;> (try split) <;> omega
  | root c b a w =>
    obtain ⟨h1, _, h2, h4, h3⟩ := id h
    have hz : IsRoot z (q * q * (b * b - 4 * a * c)) := hz
    obtain ⟨z0, z1, z2⟩ := hz
    have h2a : 0 < 2 * a := by omega
    -- the sign by its square
    have key : ∀ n : Int, (2 * a * n + b * q) * (2 * a * n + b * q) - q * q * (b * b - 4 * a * c) = 4 * a * (c * q * q + b * n * q + a * n * n) ∧ (2 * a * n + b * q) * (2 * a * n + b * q) ≠ q * q * (b * b - 4 * a * c) := fun n =>
      ⟨by grind, notSq_scale h4 hq _⟩
    have neg : ∀ n : Int, (2 * a * n + b * q) * (2 * a * n + b * q) ≤ q * q * (b * b - 4 * a * c) → c * q * q + b * n * q + a * n * n < 0 := fun n hn => by
      obtain ⟨k1, k2⟩ := key n
      by_cases hp : c * q * q + b * n * q + a * n * n < 0
      · exact hp
      · have := Int.mul_nonneg (show 0 ≤ 4 * a by omega) (show 0 ≤ c * q * q + b * n * q + a * n * n by omega)
        omega
    have pos : ∀ n : Int, q * q * (b * b - 4 * a * c) < (2 * a * n + b * q) * (2 * a * n + b * q) → ¬ c * q * q + b * n * q + a * n * n < 0 := fun n hn hp => by
      obtain ⟨k1, k2⟩ := key n
      have := Int.mul_neg_of_pos_of_neg (show 0 < 4 * a by omega) hp
      omega
    have fl : ∀ x : Int, 2 * a * (x / (2 * a)) ≤ x ∧ x < 2 * a * (x / (2 * a) + 1) := fun x => by
      have q1 := Int.emod_add_mul_ediv x (2 * a)
      have q2 := Int.emod_nonneg x (show 2 * a ≠ 0 by omega)
      have q3 := Int.emod_lt_of_pos x h2a
      have e : 2 * a * (x / (2 * a) + 1) = 2 * a * (x / (2 * a)) + 2 * a := by grind
      rw [e]
      omega
    have b1 : ∀ n : Int, w = 1 → (2 * a * n + b * q ≤ 0 ∨ c * q * q + b * n * q + a * n * n < 0) → beside (.root c b a w) n q = 1 := fun n hw hc => by
      show (if w = 1 then (if 2 * a * n + b * q ≤ 0 ∨ c * q * q + b * n * q + a * n * n < 0 then (1 : Int) else -1) else _) = 1
      rw [if_pos hw, if_pos hc]
    have b2 : ∀ n : Int, w = 1 → ¬ (2 * a * n + b * q ≤ 0 ∨ c * q * q + b * n * q + a * n * n < 0) → beside (.root c b a w) n q = -1 := fun n hw hc => by
      show (if w = 1 then (if 2 * a * n + b * q ≤ 0 ∨ c * q * q + b * n * q + a * n * n < 0 then (1 : Int) else -1) else _) = -1
      rw [if_pos hw, if_neg hc]
    have b3 : ∀ n : Int, w ≠ 1 → (0 ≤ 2 * a * n + b * q ∨ c * q * q + b * n * q + a * n * n < 0) → beside (.root c b a w) n q = -1 := fun n hw hc => by
      show (if w = 1 then _ else (if 0 ≤ 2 * a * n + b * q ∨ c * q * q + b * n * q + a * n * n < 0 then (-1 : Int) else 1)) = -1
      rw [if_neg hw, if_pos hc]
    have b4 : ∀ n : Int, w ≠ 1 → ¬ (0 ≤ 2 * a * n + b * q ∨ c * q * q + b * n * q + a * n * n < 0) → beside (.root c b a w) n q = 1 := fun n hw hc => by
      show (if w = 1 then _ else (if 0 ≤ 2 * a * n + b * q ∨ c * q * q + b * n * q + a * n * n < 0 then (-1 : Int) else 1)) = 1
      rw [if_neg hw, if_neg hc]
    by_cases hw : w = 1
    · have ef : (Num.root c b a w).flo q z = (z - b * q) / (2 * a) := if_pos hw
      rw [ef]
      obtain ⟨f1, f2⟩ := fl (z - b * q)
      generalize (z - b * q) / (2 * a) = m at *
      constructor
      · rw [b1 m hw]
        · decide
        · by_cases hs : 2 * a * m + b * q ≤ 0
          · exact .inl hs
          · refine .inr (neg m ?_)
            have := isq (show 0 ≤ 2 * a * m + b * q by omega) (show 2 * a * m + b * q ≤ z by omega)
            omega
      · rw [b2 (m + 1) hw]
        · decide
        · have h5 := isq (show 0 ≤ z + 1 by omega) (show z + 1 ≤ 2 * a * (m + 1) + b * q by omega)
          have h6 := pos (m + 1) (by omega)
          rintro (h7 | h7)
          · omega
          · exact h6 h7
    · have ef : (Num.root c b a w).flo q z = (-z - 1 - b * q) / (2 * a) := if_neg hw
      rw [ef]
      obtain ⟨f1, f2⟩ := fl (-z - 1 - b * q)
      generalize (-z - 1 - b * q) / (2 * a) = m at *
      constructor
      · rw [b4 m hw]
        · decide
        · have h5 := isq (show 0 ≤ z + 1 by omega) (show z + 1 ≤ -(2 * a * m + b * q) by omega)
          rw [Int.neg_mul_neg] at h5
          have h6 := pos m (by omega)
          rintro (h7 | h7)
          · omega
          · exact h6 h7
      · rw [b3 (m + 1) hw]
        · decide
        · by_cases hs : 0 ≤ 2 * a * (m + 1) + b * q
          · exact .inl hs
          · refine .inr (neg (m + 1) ?_)
            have h5 := isq (show 0 ≤ -(2 * a * (m + 1) + b * q) by omega) (show -(2 * a * (m + 1) + b * q) ≤ z by omega)
            rw [Int.neg_mul_neg] at h5
            omega
theorem S1_mono {a b P : Rat} {s : Int} (hs : Ok s P) (h : a ≤ b) (ha : 0 ≤ S1 a s P) : 0 ≤ S1 b s P := by
  have : ¬ S1 b s P < 0 := fun hb => by
    have hneg : S1 a s P = -1 := by
      rcases hs with ⟨rfl, hP⟩ | ⟨rfl, hP⟩ | ⟨rfl, hP⟩
      · have := S1_neg0 hb
        rw [S1_0, sg_neg (by grind)]
      · obtain ⟨h1, h2⟩ := S1_neg1 hb
        have := sq_le (a := -b) (b := -a) (by grind) (by grind)
        exact S1_ism1 (by grind) (by grind)
      · refine S1_ism1' ?_
        by_cases h0 : a ≤ 0
        · exact .inl h0
        · refine .inr ⟨by grind, ?_⟩
          have h1 := sq_le (a := a) (b := b) (by grind) h
          rcases S1_neg2 hb with h2 | ⟨h2, h3⟩
          · grind
          · grind
    omega
  omega
/-- what compare_numbers hands back -/
def cmp (m k : Num) : Int := S3 (m.X - k.X) m.S m.P (-k.S) k.P
theorem cmp_rat {m : Num} (h : m.Valid) {n d : Int} (hd : 0 < d) : cmp m (.rat n d) = beside m n d := by
  unfold cmp
  show S3 (m.X - (n : Rat) / (d : Rat)) m.S m.P (-0) 0 = _
  rw [Int.neg_zero, tot_rat (Num.ok h)]
  exact sign_beside h hd
theorem beside_scale {m : Num} (h : m.Valid) {n d g : Int} (hd : 0 < d) (hg : 0 < g) : beside m (g * n) (g * d) = beside m n d := by
  have hgd : 0 < g * d := Int.mul_pos hg hd
  rw [← sign_beside h hd, ← sign_beside h hgd]
  congr 2
  have h1 := rne hg
  have h2 := rne hd
  rw [Rat.intCast_mul, Rat.intCast_mul]
  grind
theorem rdiv_le {x y q : Int} (hq : 0 < q) (h : x ≤ y) : (x : Rat) / (q : Rat) ≤ (y : Rat) / (q : Rat) := by
  have h1 := Rat.intCast_le_intCast.mpr h
  have h2 : (0 : Rat) ≤ (q : Rat)⁻¹ := by have := Rat.inv_pos.mpr (rpos hq); grind
  rw [Rat.div_def, Rat.div_def]
  exact Rat.mul_le_mul_of_nonneg_right h1 h2
theorem cmp_floor {m k : Num} (hm : m.Valid) (hk : k.Valid) {x y q : Int} (hq : 0 < q) (m0 : 0 ≤ beside m x q) (m1 : beside m (x + 1) q < 0) (k0 : 0 ≤ beside k y q) (k1 : beside k (y + 1) q < 0) :
    (x < y → cmp m k = -1) ∧ (y < x → cmp m k = 1) := by
  rw [← sign_beside hm hq] at m0 m1
  rw [← sign_beside hk hq] at k0 k1
  unfold cmp
  constructor
  · intro h
    have := rdiv_le hq (show x + 1 ≤ y by omega)
    have h0 := S1_mono (Num.ok hk) (b := k.X - ((x + 1 : Int) : Rat) / (q : Rat)) (by grind) k0
    have h1 := tot_less (Num.ok hm) (Num.ok hk) m1 h0
    rw [show m.X - ((x + 1 : Int) : Rat) / (q : Rat) - (k.X - ((x + 1 : Int) : Rat) / (q : Rat)) = m.X - k.X by grind] at h1
    exact h1
  · intro h
    have := rdiv_le hq (show y + 1 ≤ x by omega)
    have h0 := S1_mono (Num.ok hm) (b := m.X - ((y + 1 : Int) : Rat) / (q : Rat)) (by grind) m0
    have h1 := tot_more (Num.ok hm) (Num.ok hk) h0 k1
    rw [show m.X - ((y + 1 : Int) : Rat) / (q : Rat) - (k.X - ((y + 1 : Int) : Rat) / (q : Rat)) = m.X - k.X by grind] at h1
    exact h1
theorem num_sign {m : Num} (h : m.Valid) : S1 m.X m.S m.P = beside m 0 1 := by
  rw [← sign_beside h (show (0 : Int) < 1 by decide)]
  congr 1
  rw [show ((0 : Int) : Rat) = 0 by simp]
  grind
/-- the element's second part of a root, and the field -/
theorem part_S {c b a w : Int} (h : (Num.root c b a w).Valid) : sg (((2 * w - 1 : Int) : Rat) / ((2 * a : Int) : Rat) * ((b * b - 4 * a * c : Int) : Rat)) = (Num.root c b a w).S := by
  obtain ⟨h1, _, h2, _, h3⟩ := h
  have p1 := rpos h2
  have p2 := rdiv_pos p1 (rpos (show 0 < 2 * a by omega))
  show _ = if w = 1 then (1 : Int) else -1
  rw [show ((2 * w - 1 : Int) : Rat) / ((2 * a : Int) : Rat) * ((b * b - 4 * a * c : Int) : Rat) = ((b * b - 4 * a * c : Int) : Rat) / ((2 * a : Int) : Rat) * ((2 * w - 1 : Int) : Rat) by rw [Rat.div_def, Rat.div_def]; grind, sg_scale p2, sg_int]
  rcases h3 with rfl | rfl <;> rfl
theorem part_P {c b a w : Int} (h : (Num.root c b a w).Valid) : ((b * b - 4 * a * c : Int) : Rat) * (((2 * w - 1 : Int) : Rat) / ((2 * a : Int) : Rat) * (((2 * w - 1 : Int) : Rat) / ((2 * a : Int) : Rat))) = (Num.root c b a w).P := by
  obtain ⟨h1, _, h2, _, h3⟩ := h
  have p1 := rne h1
  show _ = ((b * b - 4 * a * c : Int) : Rat) / ((4 * a * a : Int) : Rat)
  rcases h3 with rfl | rfl
  · simp only [Rat.intCast_mul, Rat.intCast_sub, Rat.intCast_ofNat, Int.mul_zero]
    grind
  · simp only [Rat.intCast_mul, Rat.intCast_sub, Rat.intCast_ofNat]
    grind
end K12

namespace K12
/-- the law's gcd loop: x, y behind i turns -/
def GInv (g i x y : Nat) : Prop := Nat.gcd x y = g ∧ ∃ N, x * y < 2 ^ N ∧ ((i = 0 ∧ N ≤ 39999) ∨ (0 < i ∧ y ≤ x ∧ N + i ≤ 40000))
theorem ginv0 {x y : Nat} {B : Nat} (hx : x < 2 ^ B) (hy : y < 2 ^ B) (hB : B ≤ 10000) : GInv (Nat.gcd x y) 0 x y := by
  refine ⟨rfl, B + B, ?_, .inl ⟨rfl, by omega⟩⟩
  rw [Nat.pow_add]
  exact Nat.mul_lt_mul'' hx hy
theorem ginv_step {g i x y : Nat} (h : GInv g i x y) (hy : y ≠ 0) : GInv g (i + 1) y (x % y) := by
  obtain ⟨h1, N, h2, h3⟩ := h
  have hlt := Nat.mod_lt x (Nat.pos_of_ne_zero hy)
  have hg : Nat.gcd y (x % y) = g := by rw [← h1, Nat.gcd_comm x y, Nat.gcd_rec y x, Nat.gcd_comm]
  refine ⟨hg, ?_⟩
  rcases h3 with ⟨rfl, h3⟩ | ⟨h3, h4, h5⟩
  · refine ⟨N, ?_, .inr ⟨by omega, by omega, by omega⟩⟩
    have h6 : y * (x % y) ≤ x * y := by
      rw [Nat.mul_comm x y]
      exact Nat.mul_le_mul_left y (Nat.mod_le x y)
    omega
  · have hd := Nat.mod_add_div x y
    have hq : 1 ≤ x / y := Nat.div_pos h4 (Nat.pos_of_ne_zero hy)
    have h7 : y ≤ y * (x / y) := Nat.le_mul_of_pos_right y hq
    have h8 : 2 * (x % y) ≤ x := by omega
    have h9 : y * (2 * (x % y)) ≤ y * x := Nat.mul_le_mul_left y h8
    have e1 : y * (2 * (x % y)) = 2 * (y * (x % y)) := by grind
    have e2 : y * x = x * y := Nat.mul_comm _ _
    cases N with
    | zero =>
      have : 1 * 1 ≤ x * y := Nat.mul_le_mul (by omega) (by omega)
      simp at h2
      omega
    | succ N =>
      refine ⟨N, ?_, .inr ⟨by omega, by omega, by omega⟩⟩
      rw [Nat.pow_succ] at h2
      omega
theorem ginv_zero {g i x : Nat} (h : GInv g i x 0) : x = g := by
  have := h.1
  rw [Nat.gcd_zero_right] at this
  exact this
theorem ginv_end {g x y : Nat} (h : GInv g 40000 x y) : x = g := by
  have h0 := h
  obtain ⟨_, N, h2, h3⟩ := h
  have hy : y = 0 := by
    rcases h3 with ⟨h3, _⟩ | ⟨_, h4, h5⟩
    · omega
    · have : N = 0 := by omega
      subst this
      by_cases hy : y = 0
      · exact hy
      · have : 1 * 1 ≤ x * y := Nat.mul_le_mul (by omega) (by omega)
        simp at h2
        omega
  subst hy
  exact ginv_zero h0
/-- the law's root loops -/
def RInv1 (n : Int) (i : Nat) (hi : Int) : Prop := hi = 2 ^ i ∧ (i = 0 ∨ ∃ j, i = j + 1 ∧ (2 : Int) ^ j * 2 ^ j ≤ n)
theorem ipow_pos (k : Nat) : (0 : Int) < 2 ^ k := Int.pow_pos (by decide)
theorem rinv1_step {n : Int} {i : Nat} {hi : Int} (h : RInv1 n i hi) (hb : ¬ n < hi * hi) : RInv1 n (i + 1) (hi * 2) := by
  obtain ⟨rfl, _⟩ := h
  exact ⟨(Int.pow_succ 2 i).symm, .inr ⟨i, rfl, by omega⟩⟩
theorem rinv1_end {n : Int} {i : Nat} {hi : Int} (h : RInv1 n i hi) {B : Nat} (hn : n < 2 ^ B) (h0 : B < i) : False := by
  obtain ⟨_, h2⟩ := h
  rcases h2 with h2 | ⟨j, rfl, h2⟩
  · omega
  · have h3 : (2 : Int) ^ B ≤ 2 ^ (j + j) := by
      obtain ⟨k, hk⟩ : ∃ k, j + j = B + k := ⟨j + j - B, by omega⟩
      rw [hk, Int.pow_add]
      have a1 := ipow_pos B
      have a2 := ipow_pos k
      have := Int.mul_le_mul_of_nonneg_left (show (1 : Int) ≤ 2 ^ k by omega) (show (0 : Int) ≤ 2 ^ B by omega)
      omega
    rw [Int.pow_add] at h3
    omega
def RInv2 (n : Int) (i : Nat) (lo hi : Int) : Prop := 0 ≤ lo ∧ lo < hi ∧ lo * lo ≤ n ∧ n < hi * hi ∧ ∃ e, hi - lo ≤ 2 ^ e ∧ e + i ≤ 4000
theorem rinv2_0 {n : Int} {i : Nat} {hi : Int} (hn : 0 ≤ n) (h : RInv1 n i hi) (hb : n < hi * hi) (h0 : i ≤ 4000) : RInv2 n 0 0 hi := by
  obtain ⟨rfl, _⟩ := h
  exact ⟨by decide, ipow_pos i, by omega, hb, i, by omega, by omega⟩
theorem rinv2_hi {n : Int} {i : Nat} {lo hi : Int} (h : RInv2 n i lo hi) (hb : ¬ hi - lo < 2) (hm : n < (lo + hi) / 2 * ((lo + hi) / 2)) : RInv2 n (i + 1) lo ((lo + hi) / 2) := by
  obtain ⟨h1, h2, h3, h4, e, h5, h6⟩ := h
  refine ⟨h1, by omega, h3, hm, ?_⟩
  cases e with
  | zero => simp at h5; omega
  | succ e =>
    rw [Int.pow_succ] at h5
    exact ⟨e, by omega, by omega⟩
theorem rinv2_lo {n : Int} {i : Nat} {lo hi : Int} (h : RInv2 n i lo hi) (hb : ¬ hi - lo < 2) (hm : ¬ n < (lo + hi) / 2 * ((lo + hi) / 2)) : RInv2 n (i + 1) ((lo + hi) / 2) hi := by
  obtain ⟨h1, h2, h3, h4, e, h5, h6⟩ := h
  refine ⟨by omega, by omega, by omega, h4, ?_⟩
  cases e with
  | zero => simp at h5; omega
  | succ e =>
    rw [Int.pow_succ] at h5
    exact ⟨e, by omega, by omega⟩
theorem rinv2_brk {n : Int} {i : Nat} {lo hi : Int} (h : RInv2 n i lo hi) (hb : hi - lo < 2) : IsRoot lo n := by
  obtain ⟨h1, h2, h3, h4, _⟩ := h
  have e : hi = lo + 1 := by omega
  subst e
  exact ⟨h1, h3, h4⟩
theorem rinv2_end {n : Int} {lo hi : Int} (h : RInv2 n 4000 lo hi) : IsRoot lo n := by
  have h0 := h
  obtain ⟨h1, h2, h3, h4, e, h5, h6⟩ := h
  have : e = 0 := by omega
  subst this
  simp at h5
  exact rinv2_brk h0 (by omega)
/-- both ends stay below a bound -/
theorem rinv2_lt {n : Int} {i : Nat} {lo hi : Int} (h : RInv2 n i lo hi) : 0 ≤ lo ∧ lo ≤ n + 1 := by
  obtain ⟨h1, h2, h3, h4, _⟩ := h
  refine ⟨h1, ?_⟩
  by_cases hl : lo = 0
  · have := Int.mul_nonneg h1 h1
    omega
  · have := Int.mul_le_mul_of_nonneg_left (show 1 ≤ lo by omega) h1
    omega
theorem ipow_lt {i k : Nat} (h : i < k) : ((2 : Int) ^ i).natAbs < 2 ^ k := by
  rw [Int.natAbs_pow]
  exact Nat.pow_lt_pow_right (by decide) h
theorem rinv2_hi_lt {n : Int} {i : Nat} {lo hi : Int} (h : RInv2 n i lo hi) (hn : n < 2 ^ 2000) : hi.natAbs < 2 ^ 4002 := by
  have h0 := rinv2_lt h
  obtain ⟨h1, h2, h3, h4, e, h5, h6⟩ := h
  have p1 : (2 : Int) ^ e ≤ 2 ^ 4000 := by
    obtain ⟨k, hk⟩ : ∃ k, 4000 = e + k := ⟨4000 - e, by omega⟩
    rw [hk, Int.pow_add]
    have a1 := ipow_pos e
    have a2 := ipow_pos k
    have := Int.mul_le_mul_of_nonneg_left (show (1 : Int) ≤ 2 ^ k by omega) (show (0 : Int) ≤ 2 ^ e by omega)
    omega
  have p2 : (2 : Int) ^ 2000 ≤ 2 ^ 4000 := by
    rw [show (4000 : Nat) = 2000 + 2000 by rfl, Int.pow_add]
    have a1 := ipow_pos 2000
    have := Int.mul_le_mul_of_nonneg_left (show (1 : Int) ≤ 2 ^ 2000 by omega) (show (0 : Int) ≤ 2 ^ 2000 by omega)
    omega
  have p3 : (2 : Int) ^ 4002 = 2 ^ 4000 * 2 * 2 := by rw [← Int.pow_succ, ← Int.pow_succ]
  have p4 : ((2 ^ 4002 : Nat) : Int) = (2 : Int) ^ 4002 := Int.natCast_pow 2 4002
  have a0 := ipow_pos 4000
  generalize (2 : Int) ^ 4000 = u at *
  generalize (2 : Int) ^ 2000 = v at *
  generalize (2 : Int) ^ 4002 = t at *
  generalize (2 : Nat) ^ 4002 = r at *
  generalize (2 : Int) ^ e = q at *
  omega
/-- the parts of a fraction in lowest terms -/
theorem low_parts {n d : Nat} (h : 0 < d) : Nat.gcd (n / Nat.gcd n d) (d / Nat.gcd n d) = 1 := by
  have g0 : 0 < Nat.gcd n d := Nat.gcd_pos_of_pos_right _ h
  have e1 := Nat.mul_div_cancel' (Nat.gcd_dvd_left n d)
  have e2 := Nat.mul_div_cancel' (Nat.gcd_dvd_right n d)
  have e3 := Nat.gcd_mul_left (Nat.gcd n d) (n / Nat.gcd n d) (d / Nat.gcd n d)
  rw [e1, e2] at e3
  exact Nat.eq_of_mul_eq_mul_left g0 (by rw [← e3, Nat.mul_one])
theorem low_parts3 {a b c : Nat} (h : 0 < a) : Nat.gcd (Nat.gcd (a / Nat.gcd (Nat.gcd a b) c) (b / Nat.gcd (Nat.gcd a b) c)) (c / Nat.gcd (Nat.gcd a b) c) = 1 := by
  have g1 : 0 < Nat.gcd a b := Nat.gcd_pos_of_pos_left _ h
  have g0 : 0 < Nat.gcd (Nat.gcd a b) c := Nat.gcd_pos_of_pos_left _ g1
  have d1 : Nat.gcd (Nat.gcd a b) c ∣ a := Nat.dvd_trans (Nat.gcd_dvd_left _ _) (Nat.gcd_dvd_left _ _)
  have d2 : Nat.gcd (Nat.gcd a b) c ∣ b := Nat.dvd_trans (Nat.gcd_dvd_left _ _) (Nat.gcd_dvd_right _ _)
  have d3 : Nat.gcd (Nat.gcd a b) c ∣ c := Nat.gcd_dvd_right _ _
  have e1 := Nat.mul_div_cancel' d1
  have e2 := Nat.mul_div_cancel' d2
  have e3 := Nat.mul_div_cancel' d3
  generalize hg : Nat.gcd (Nat.gcd a b) c = g at *
  have e4 := Nat.gcd_mul_left g (a / g) (b / g)
  have e5 := Nat.gcd_mul_left g (Nat.gcd (a / g) (b / g)) (c / g)
  rw [← e4, e1, e2, e3, hg] at e5
  exact Nat.eq_of_mul_eq_mul_left g0 (by rw [← e5, Nat.mul_one])
end K12

set_option maxHeartbeats 4000000
namespace K12
open PySem PySem.Spec PyProof.Rows L2
def topS (i : Nat) : Stmt := PySem.Challenge.pw_oddscall_k12_whole_floors_and_order.main.body.getD i (.Pass ⟨0, 0, 0, 0⟩)
abbrev s_init : Stmt := inClass (topS 3) 0
abbrev N_init : List Str := ["self", "name"]
theorem sc_init : FnScope N_init ["self", "name"] (defScope s_init) := ⟨rfl, rfl, rfl, by decide +kernel, rfl, by decide +kernel, by decide +kernel⟩
abbrev s_is_integer : Stmt := topS 6
abbrev N_is_integer : List Str := ["x"]
theorem sc_is_integer : FnScope N_is_integer ["x"] (defScope s_is_integer) := ⟨rfl, rfl, rfl, by decide +kernel, rfl, by decide +kernel, by decide +kernel⟩
abbrev s_is_rational : Stmt := topS 7
abbrev N_is_rational : List Str := ["x", "n", "d"]
theorem sc_is_rational : FnScope N_is_rational ["x"] (defScope s_is_rational) := ⟨rfl, rfl, rfl, by decide +kernel, rfl, by decide +kernel, by decide +kernel⟩
abbrev s_reduced : Stmt := topS 8
abbrev N_reduced : List Str := ["n", "d", "common"]
theorem sc_reduced : FnScope N_reduced ["n", "d"] (defScope s_reduced) := ⟨rfl, rfl, rfl, by decide +kernel, rfl, by decide +kernel, by decide +kernel⟩
abbrev s_ratio : Stmt := topS 9
abbrev N_ratio : List Str := ["n", "d"]
theorem sc_ratio : FnScope N_ratio ["n", "d"] (defScope s_ratio) := ⟨rfl, rfl, rfl, by decide +kernel, rfl, by decide +kernel, by decide +kernel⟩
abbrev s_plus : Stmt := topS 10
abbrev N_plus : List Str := ["a", "b"]
theorem sc_plus : FnScope N_plus ["a", "b"] (defScope s_plus) := ⟨rfl, rfl, rfl, by decide +kernel, rfl, by decide +kernel, by decide +kernel⟩
abbrev s_minus : Stmt := topS 11
abbrev N_minus : List Str := ["a", "b"]
theorem sc_minus : FnScope N_minus ["a", "b"] (defScope s_minus) := ⟨rfl, rfl, rfl, by decide +kernel, rfl, by decide +kernel, by decide +kernel⟩
abbrev s_times : Stmt := topS 12
abbrev N_times : List Str := ["a", "b"]
theorem sc_times : FnScope N_times ["a", "b"] (defScope s_times) := ⟨rfl, rfl, rfl, by decide +kernel, rfl, by decide +kernel, by decide +kernel⟩
abbrev s_sign : Stmt := topS 13
abbrev N_sign : List Str := ["n"]
theorem sc_sign : FnScope N_sign ["n"] (defScope s_sign) := ⟨rfl, rfl, rfl, by decide +kernel, rfl, by decide +kernel, by decide +kernel⟩
abbrev s_is_square : Stmt := topS 15
abbrev N_is_square : List Str := ["n"]
theorem sc_is_square : FnScope N_is_square ["n"] (defScope s_is_square) := ⟨rfl, rfl, rfl, by decide +kernel, rfl, by decide +kernel, by decide +kernel⟩
abbrev s_is_root : Stmt := topS 17
abbrev N_is_root : List Str := ["x", "one", "c", "b", "a", "inside"]
theorem sc_is_root : FnScope N_is_root ["x"] (defScope s_is_root) := ⟨rfl, rfl, rfl, by decide +kernel, rfl, by decide +kernel, by decide +kernel⟩
abbrev s_is_number : Stmt := topS 18
abbrev N_is_number : List Str := ["x"]
theorem sc_is_number : FnScope N_is_number ["x"] (defScope s_is_number) := ⟨rfl, rfl, rfl, by decide +kernel, rfl, by decide +kernel, by decide +kernel⟩
abbrev s_check_number : Stmt := topS 19
abbrev N_check_number : List Str := ["x", "name"]
theorem sc_check_number : FnScope N_check_number ["x", "name"] (defScope s_check_number) := ⟨rfl, rfl, rfl, by decide +kernel, rfl, by decide +kernel, by decide +kernel⟩
abbrev s_parts_of : Stmt := topS 20
abbrev N_parts_of : List Str := ["number", "c", "b", "a"]
theorem sc_parts_of : FnScope N_parts_of ["number"] (defScope s_parts_of) := ⟨rfl, rfl, rfl, by decide +kernel, rfl, by decide +kernel, by decide +kernel⟩
abbrev s_square_sign : Stmt := topS 21
abbrev N_square_sign : List Str := ["x", "y", "inside", "first", "second"]
theorem sc_square_sign : FnScope N_square_sign ["x", "y", "inside"] (defScope s_square_sign) := ⟨rfl, rfl, rfl, by decide +kernel, rfl, by decide +kernel, by decide +kernel⟩
abbrev s_two_roots_sign : Stmt := topS 22
abbrev N_two_roots_sign : List Str := ["u", "d", "v", "e", "first", "second"]
theorem sc_two_roots_sign : FnScope N_two_roots_sign ["u", "d", "v", "e"] (defScope s_two_roots_sign) := ⟨rfl, rfl, rfl, by decide +kernel, rfl, by decide +kernel, by decide +kernel⟩
abbrev s_total_sign : Stmt := topS 23
abbrev N_total_sign : List Str := ["r", "u", "d", "v", "e", "first", "second", "squares"]
theorem sc_total_sign : FnScope N_total_sign ["r", "u", "d", "v", "e"] (defScope s_total_sign) := ⟨rfl, rfl, rfl, by decide +kernel, rfl, by decide +kernel, by decide +kernel⟩
abbrev s_number_sign : Stmt := topS 24
abbrev N_number_sign : List Str := ["number", "field", "element"]
theorem sc_number_sign : FnScope N_number_sign ["number"] (defScope s_number_sign) := ⟨rfl, rfl, rfl, by decide +kernel, rfl, by decide +kernel, by decide +kernel⟩
abbrev s_compare_numbers : Stmt := topS 25
abbrev N_compare_numbers : List Str := ["first", "second", "d", "x", "u", "e", "y", "v"]
theorem sc_compare_numbers : FnScope N_compare_numbers ["first", "second"] (defScope s_compare_numbers) := ⟨rfl, rfl, rfl, by decide +kernel, rfl, by decide +kernel, by decide +kernel⟩
abbrev s_floor_of : Stmt := topS 26
abbrev N_floor_of : List Str := ["number", "q", "c", "b", "a", "size"]
theorem sc_floor_of : FnScope N_floor_of ["number", "q"] (defScope s_floor_of) := ⟨rfl, rfl, rfl, by decide +kernel, rfl, by decide +kernel, by decide +kernel⟩
abbrev s_law_stream : Stmt := topS 28
abbrev N_law_stream : List Str := ["_law_script"]
theorem sc_law_stream : FnScope N_law_stream ["_law_script"] (defScope s_law_stream) := ⟨rfl, rfl, rfl, by decide +kernel, rfl, by decide +kernel, by decide +kernel⟩
abbrev s_law_next : Stmt := topS 29
abbrev N_law_next : List Str := ["_law_stream_here", "_law_many", "_law_k", "_law_cell", "_law_digit"]
theorem sc_law_next : FnScope N_law_next ["_law_stream_here", "_law_many"] (defScope s_law_next) := ⟨rfl, rfl, rfl, by decide +kernel, rfl, by decide +kernel, by decide +kernel⟩
abbrev s_law_is_integer : Stmt := topS 30
abbrev N_law_is_integer : List Str := ["_law_actual"]
theorem sc_law_is_integer : FnScope N_law_is_integer ["_law_actual"] (defScope s_law_is_integer) := ⟨rfl, rfl, rfl, by decide +kernel, rfl, by decide +kernel, by decide +kernel⟩
abbrev s_law_gcd : Stmt := topS 31
abbrev N_law_gcd : List Str := ["_law_a", "_law_b", "_law_k"]
theorem sc_law_gcd : FnScope N_law_gcd ["_law_a", "_law_b"] (defScope s_law_gcd) := ⟨rfl, rfl, rfl, by decide +kernel, rfl, by decide +kernel, by decide +kernel⟩
abbrev s_law_low : Stmt := topS 32
abbrev N_law_low : List Str := ["_law_n", "_law_d", "_law_shared"]
theorem sc_law_low : FnScope N_law_low ["_law_n", "_law_d"] (defScope s_law_low) := ⟨rfl, rfl, rfl, by decide +kernel, rfl, by decide +kernel, by decide +kernel⟩
abbrev s_law_ratio : Stmt := topS 36
abbrev N_law_ratio : List Str := ["_law_stream_here", "_law_top", "_law_most", "_law_n"]
theorem sc_law_ratio : FnScope N_law_ratio ["_law_stream_here", "_law_top", "_law_most"] (defScope s_law_ratio) := ⟨rfl, rfl, rfl, by decide +kernel, rfl, by decide +kernel, by decide +kernel⟩
abbrev s_law_equal : Stmt := topS 37
abbrev N_law_equal : List Str := ["_law_actual", "_law_due", "_law_at"]
theorem sc_law_equal : FnScope N_law_equal ["_law_actual", "_law_due"] (defScope s_law_equal) := ⟨rfl, rfl, rfl, by decide +kernel, rfl, by decide +kernel, by decide +kernel⟩
abbrev s_law_root : Stmt := topS 38
abbrev N_law_root : List Str := ["_law_n", "_law_low_here", "_law_high", "_law_k", "_law_middle"]
theorem sc_law_root : FnScope N_law_root ["_law_n"] (defScope s_law_root) := ⟨rfl, rfl, rfl, by decide +kernel, rfl, by decide +kernel, by decide +kernel⟩
abbrev s_law_is_square : Stmt := topS 39
abbrev N_law_is_square : List Str := ["_law_n"]
theorem sc_law_is_square : FnScope N_law_is_square ["_law_n"] (defScope s_law_is_square) := ⟨rfl, rfl, rfl, by decide +kernel, rfl, by decide +kernel, by decide +kernel⟩
abbrev s_law_number : Stmt := topS 40
abbrev N_law_number : List Str := ["_law_stream_here", "_law_a", "_law_b", "_law_c", "_law_shared", "_law_inside"]
theorem sc_law_number : FnScope N_law_number ["_law_stream_here"] (defScope s_law_number) := ⟨rfl, rfl, rfl, by decide +kernel, rfl, by decide +kernel, by decide +kernel⟩
abbrev s_law_beside : Stmt := topS 41
abbrev N_law_beside : List Str := ["_law_number_here", "_law_n", "_law_d", "_law_left", "_law_right", "_law_c", "_law_b", "_law_a", "_law_here", "_law_side"]
theorem sc_law_beside : FnScope N_law_beside ["_law_number_here", "_law_n", "_law_d"] (defScope s_law_beside) := ⟨rfl, rfl, rfl, by decide +kernel, rfl, by decide +kernel, by decide +kernel⟩
abbrev s_law_told : Stmt := topS 44
abbrev N_law_told : List Str := ["_law_number_here", "_law_q", "e"]
theorem sc_law_told : FnScope N_law_told ["_law_number_here", "_law_q"] (defScope s_law_told) := ⟨rfl, rfl, rfl, by decide +kernel, rfl, by decide +kernel, by decide +kernel⟩
abbrev s_law_long : Stmt := topS 45
abbrev N_law_long : List Str := ["_law_stream_here", "_law_a", "_law_b", "_law_c", "_law_shared"]
theorem sc_law_long : FnScope N_law_long ["_law_stream_here"] (defScope s_law_long) := ⟨rfl, rfl, rfl, by decide +kernel, rfl, by decide +kernel, by decide +kernel⟩
abbrev s_law : Stmt := topS 46
abbrev N_law : List Str := ["_law_script", "_law_stream_here", "_law_numbers", "_law_q", "_law_floors", "_law_number_here", "_law_m", "_law_wrong"]
theorem sc_law : FnScope N_law ["_law_script"] (defScope s_law) := ⟨rfl, rfl, rfl, by decide +kernel, rfl, by decide +kernel, by decide +kernel⟩
/-- where the defs stand -/
structure Ad where
  is_integer : Addr
  is_rational : Addr
  reduced : Addr
  ratio : Addr
  plus : Addr
  minus : Addr
  times : Addr
  sign : Addr
  is_square : Addr
  is_root : Addr
  is_number : Addr
  check_number : Addr
  parts_of : Addr
  square_sign : Addr
  two_roots_sign : Addr
  total_sign : Addr
  number_sign : Addr
  compare_numbers : Addr
  floor_of : Addr
  law_stream : Addr
  law_next : Addr
  law_is_integer : Addr
  law_gcd : Addr
  law_low : Addr
  law_ratio : Addr
  law_equal : Addr
  law_root : Addr
  law_is_square : Addr
  law_number : Addr
  law_beside : Addr
  law_told : Addr
  law_long : Addr
  law : Addr
  BadValue : Addr
  init : Addr
  ZERO : Addr
/-- what the top has written -/
structure Txt (K : PySem.W.Frag) (mg : Str → Option Value) (A : Ad) : Prop where
  g_is_integer : mg "is_integer" = some (.ref A.is_integer)
  k_is_integer : PySem.W.keepIn K (.ref A.is_integer) = true
  g_is_rational : mg "is_rational" = some (.ref A.is_rational)
  k_is_rational : PySem.W.keepIn K (.ref A.is_rational) = true
  g_reduced : mg "reduced" = some (.ref A.reduced)
  k_reduced : PySem.W.keepIn K (.ref A.reduced) = true
  g_ratio : mg "ratio" = some (.ref A.ratio)
  k_ratio : PySem.W.keepIn K (.ref A.ratio) = true
  g_plus : mg "plus" = some (.ref A.plus)
  k_plus : PySem.W.keepIn K (.ref A.plus) = true
  g_minus : mg "minus" = some (.ref A.minus)
  k_minus : PySem.W.keepIn K (.ref A.minus) = true
  g_times : mg "times" = some (.ref A.times)
  k_times : PySem.W.keepIn K (.ref A.times) = true
  g_sign : mg "sign" = some (.ref A.sign)
  k_sign : PySem.W.keepIn K (.ref A.sign) = true
  g_is_square : mg "is_square" = some (.ref A.is_square)
  k_is_square : PySem.W.keepIn K (.ref A.is_square) = true
  g_is_root : mg "is_root" = some (.ref A.is_root)
  k_is_root : PySem.W.keepIn K (.ref A.is_root) = true
  g_is_number : mg "is_number" = some (.ref A.is_number)
  k_is_number : PySem.W.keepIn K (.ref A.is_number) = true
  g_check_number : mg "check_number" = some (.ref A.check_number)
  k_check_number : PySem.W.keepIn K (.ref A.check_number) = true
  g_parts_of : mg "parts_of" = some (.ref A.parts_of)
  k_parts_of : PySem.W.keepIn K (.ref A.parts_of) = true
  g_square_sign : mg "square_sign" = some (.ref A.square_sign)
  k_square_sign : PySem.W.keepIn K (.ref A.square_sign) = true
  g_two_roots_sign : mg "two_roots_sign" = some (.ref A.two_roots_sign)
  k_two_roots_sign : PySem.W.keepIn K (.ref A.two_roots_sign) = true
  g_total_sign : mg "total_sign" = some (.ref A.total_sign)
  k_total_sign : PySem.W.keepIn K (.ref A.total_sign) = true
  g_number_sign : mg "number_sign" = some (.ref A.number_sign)
  k_number_sign : PySem.W.keepIn K (.ref A.number_sign) = true
  g_compare_numbers : mg "compare_numbers" = some (.ref A.compare_numbers)
  k_compare_numbers : PySem.W.keepIn K (.ref A.compare_numbers) = true
  g_floor_of : mg "floor_of" = some (.ref A.floor_of)
  k_floor_of : PySem.W.keepIn K (.ref A.floor_of) = true
  g_law_stream : mg "_law_stream" = some (.ref A.law_stream)
  k_law_stream : PySem.W.keepIn K (.ref A.law_stream) = true
  g_law_next : mg "_law_next" = some (.ref A.law_next)
  k_law_next : PySem.W.keepIn K (.ref A.law_next) = true
  g_law_is_integer : mg "_law_is_integer" = some (.ref A.law_is_integer)
  k_law_is_integer : PySem.W.keepIn K (.ref A.law_is_integer) = true
  g_law_gcd : mg "_law_gcd" = some (.ref A.law_gcd)
  k_law_gcd : PySem.W.keepIn K (.ref A.law_gcd) = true
  g_law_low : mg "_law_low" = some (.ref A.law_low)
  k_law_low : PySem.W.keepIn K (.ref A.law_low) = true
  g_law_ratio : mg "_law_ratio" = some (.ref A.law_ratio)
  k_law_ratio : PySem.W.keepIn K (.ref A.law_ratio) = true
  g_law_equal : mg "_law_equal" = some (.ref A.law_equal)
  k_law_equal : PySem.W.keepIn K (.ref A.law_equal) = true
  g_law_root : mg "_law_root" = some (.ref A.law_root)
  k_law_root : PySem.W.keepIn K (.ref A.law_root) = true
  g_law_is_square : mg "_law_is_square" = some (.ref A.law_is_square)
  k_law_is_square : PySem.W.keepIn K (.ref A.law_is_square) = true
  g_law_number : mg "_law_number" = some (.ref A.law_number)
  k_law_number : PySem.W.keepIn K (.ref A.law_number) = true
  g_law_beside : mg "_law_beside" = some (.ref A.law_beside)
  k_law_beside : PySem.W.keepIn K (.ref A.law_beside) = true
  g_law_told : mg "_law_told" = some (.ref A.law_told)
  k_law_told : PySem.W.keepIn K (.ref A.law_told) = true
  g_law_long : mg "_law_long" = some (.ref A.law_long)
  k_law_long : PySem.W.keepIn K (.ref A.law_long) = true
  g_law : mg "law" = some (.ref A.law)
  k_law : PySem.W.keepIn K (.ref A.law) = true
  n_isinstance : mg "isinstance" = none
  n_len : mg "len" = none
  n_int : mg "int" = none
  n_bool : mg "bool" = none
  n_tuple : mg "tuple" = none
  n_str : mg "str" = none
  n_all : mg "all" = none
  n_abs : mg "abs" = none
  n_list : mg "list" = none
  n_range : mg "range" = none
  g_gcd : mg "gcd" = some (.builtin "math.gcd")
  g_isqrt : mg "isqrt" = some (.builtin "math.isqrt")
  g_ZERO : mg "ZERO" = some (.ref A.ZERO)
  zero : ∃ (o : Obj) (its : Array Value) (n : Nat), K.lookup A.ZERO = some o ∧ o.cls = .type "tuple" ∧ o.data = .seq its n ∧ its.size ≤ sizeLine ∧ Vals [.int 0, .int 1] its.toList
  gC : mg "BadValue" = some (.ref A.BadValue)
  oex : OexC K A.BadValue
  iC : PySem.W.findIn K (.ref A.BadValue) "__init__" = some (some (.ref A.init))
  tI : PySem.W.typeIn K (.ref A.init) = some (.type "function")
  nN : PySem.W.findIn K (.ref A.BadValue) "name" = some none
  xf : XfC K A.BadValue
  te : PySem.W.exmOne K (.ref A.BadValue) (.ref A.BadValue) = some true
def IsF (K : PySem.W.Frag) (x qual : Str) (st : Stmt) (f : Addr) : Prop := ∃ fd, Fun K x qual st f fd
def Good (P : Program) (w : World) (K : PySem.W.Frag) (mg : Str → Option Value) (base : Heap) (CX : CXT) (k : Nat) (f : Addr) (ps : List Str) (sp : Sp) : Prop := ∃ fd, FnOk P w K mg base CX k f fd ps sp ∧ Binds K fd ps []
theorem _root_.L2.Same.sqt {K : PySem.W.Frag} {H H' : Hp} {a : Addr} {xs : List V} (e : Same H H') (h : SqT K H a xs) : SqT K H' a xs := by
  rcases h with (h | ⟨o, h⟩) | h
  · exact .inl (.inl (e _ _ h))
  · exact .inl (.inr ⟨o, e _ _ h⟩)
  · exact .inr h
theorem _root_.L2.Same.new {H : Hp} {p : Addr} {o : HO} (h : H p = none) : Same H (upd H p o) := fun b u e => by rw [upd_ne (ne_of_none e h)]; exact e
theorem sqt_new {K : PySem.W.Frag} {H : Hp} {p : Addr} {xs : List V} : SqT K (upd H p (.tup xs)) p xs := .inl (.inl upd_same)
theorem tyT {K : PySem.W.Frag} {H : Hp} {p : Addr} {xs : List V} (h : SqT K H p xs) : TyX K H (.ref p) (.type "tuple") := by
  rcases h with (h | ⟨o, h⟩) | ⟨o, its, n, h, c, _⟩
  · exact .base (.tup h)
  · exact .fTuple h
  · exact .kTuple h c
theorem two_le : 2 ≤ sizeLine := by decide
theorem three_le : 3 ≤ sizeLine := by decide
/-! ### math.isqrt -/
def rIsqrt : List V → Hp → VK → Prop := fun vs H Q => ∃ a : Int, vs = [.int a] ∧ 0 ≤ a ∧ a.natAbs < 2 ^ 9000 ∧ ∀ z, IsRoot z a → Q (.int z) H
theorem isqrt_root {a : Int} (h : 0 ≤ a) : IsRoot ((Float64.isqrt a.toNat : Nat) : Int) a := by
  obtain ⟨h1, h2⟩ := PySem.Float64.isqrt_spec a.toNat
  have e : ((a.toNat : Nat) : Int) = a := Int.toNat_of_nonneg h
  generalize Float64.isqrt a.toNat = r at *
  refine ⟨Int.natCast_nonneg _, ?_, ?_⟩
  · have : ((r * r : Nat) : Int) ≤ ((a.toNat : Nat) : Int) := Int.ofNat_le.mpr h1
    rw [e, Int.natCast_mul] at this
    exact this
  · have : ((a.toNat : Nat) : Int) < (((r + 1) * (r + 1) : Nat) : Int) := Int.ofNat_lt.mpr h2
    rw [e, Int.natCast_mul] at this
    exact this
section
variable {X : Cx}
theorem cr_isqrt : CallR X (.builtin "math.isqrt") rIsqrt := by
  intro pins s σ H vs us Q I r h
  obtain ⟨a, rfl, h0, h1, q⟩ := h
  obtain ⟨u, rfl, t, rfl⟩ := vals1 r
  have hl : a.toNat.log2 < 9000 := by
    have e : a.toNat = a.natAbs := by omega
    rw [e]
    exact PySem.Flt.log2_lt_of (by decide) h1
  exact call_function_meets PySem.W.MGF.kind_isqrt PySem.W.MGF.plain_isqrt PySem.W.MGF.entry_isqrt (PySem.W.MGF.args_isqrt _) (PySem.W.mg_run_isqrt a t (by omega) (by omega) (by omega)).meets ⟨.int _, H, I.tok _, ⟨_, rfl⟩, q _ (isqrt_root h0)⟩
end
end K12

set_option maxHeartbeats 4000000
namespace K12
open PySem PySem.Spec PyProof.Rows L2
/-- a rational at p, below 2 ^ B -/
def IsQ (K : PySem.W.Frag) (H : Hp) (p : Addr) (x : Rat) (B : Nat) : Prop := ∃ n d : Int, SqT K H p [.int n, .int d] ∧ 0 < d ∧ x = (n : Rat) / (d : Rat) ∧ n.natAbs < 2 ^ B ∧ d.natAbs < 2 ^ B
theorem IsQ.same {K : PySem.W.Frag} {H H' : Hp} {p : Addr} {x : Rat} {B : Nat} (h : IsQ K H p x B) (e : Same H H') : IsQ K H' p x B := by
  obtain ⟨n, d, h1, h2⟩ := h
  exact ⟨n, d, e.sqt h1, h2⟩
theorem pow_le {a b : Nat} (h : a ≤ b) : 2 ^ a ≤ 2 ^ b := Nat.pow_le_pow_right (by decide) h
theorem lt_up {n a b : Nat} (h : n < 2 ^ a) (k : a ≤ b) : n < 2 ^ b := Nat.lt_of_lt_of_le h (pow_le k)
theorem IsQ.up {K : PySem.W.Frag} {H : Hp} {p : Addr} {x : Rat} {B C : Nat} (h : IsQ K H p x B) (e : B ≤ C) : IsQ K H p x C := by
  obtain ⟨n, d, h1, h2, h3, h4, h5⟩ := h
  exact ⟨n, d, h1, h2, h3, lt_up h4 e, lt_up h5 e⟩
theorem lt_add {i j : Int} {a b : Nat} (ha : i.natAbs < 2 ^ a) (hb : j.natAbs < 2 ^ b) : (i + j).natAbs < 2 ^ (max a b + 1) := by
  have h1 := lt_up ha (Nat.le_max_left a b)
  have h2 := lt_up hb (Nat.le_max_right a b)
  rw [Nat.pow_succ]
  omega
theorem lt_sub {i j : Int} {a b : Nat} (ha : i.natAbs < 2 ^ a) (hb : j.natAbs < 2 ^ b) : (i - j).natAbs < 2 ^ (max a b + 1) := by
  have h1 := lt_up ha (Nat.le_max_left a b)
  have h2 := lt_up hb (Nat.le_max_right a b)
  rw [Nat.pow_succ]
  omega
def gc (a b : Int) : Int := ((Nat.gcd a.natAbs b.natAbs : Nat) : Int)
theorem gc_pos {a b : Int} (h : b ≠ 0) : 0 < gc a b := by
  have : 0 < Nat.gcd a.natAbs b.natAbs := Nat.gcd_pos_of_pos_right _ (by omega)
  unfold gc; omega
theorem gc_l (a b : Int) : gc a b ∣ a := by
  unfold gc
  exact Int.natAbs_dvd_natAbs.mp (show Nat.gcd a.natAbs b.natAbs ∣ a.natAbs from Nat.gcd_dvd_left _ _)
theorem gc_r (a b : Int) : gc a b ∣ b := by
  unfold gc
  exact Int.natAbs_dvd_natAbs.mp (show Nat.gcd a.natAbs b.natAbs ∣ b.natAbs from Nat.gcd_dvd_right _ _)
theorem gc_le {a b : Int} (h : 0 < b) : gc a b ≤ b := Int.le_of_dvd h (gc_r a b)
theorem div_lt {n g : Int} {B : Nat} (hg : 0 < g) (h : n.natAbs < 2 ^ B) : (n / g).natAbs < 2 ^ B := by
  have := Int.natAbs_ediv_le_natAbs n g
  omega
theorem red_val {n d g : Int} (hd : 0 < d) (hg : 0 < g) (h1 : g ∣ n) (h2 : g ∣ d) : 0 < d / g ∧ (n : Rat) / (d : Rat) = ((n / g : Int) : Rat) / ((d / g : Int) : Rat) := by
  obtain ⟨k, rfl⟩ := h1
  obtain ⟨j, rfl⟩ := h2
  have hj : 0 < j := Int.pos_of_mul_pos_right hd (by omega)
  rw [Int.mul_ediv_cancel_left _ (show g ≠ 0 by omega), Int.mul_ediv_cancel_left _ (show g ≠ 0 by omega)]
  refine ⟨hj, ?_⟩
  have a1 := rne hg
  have a2 := rne hj
  rw [Rat.intCast_mul, Rat.intCast_mul]
  grind
/-! ### promises -/
def spIsInt (K : PySem.W.Frag) : Sp := fun vs H Q _ => ∃ x, vs = [x] ∧ ((∃ i, x = .int i ∧ Q (.bl true) H) ∨ ((x = .non ∨ (∃ b, x = .bl b) ∨ (∃ z, x = .str z) ∨ ∃ p xs, x = .ref p ∧ SqT K H p xs) ∧ Q (.bl false) H))
def spReduced (K : PySem.W.Frag) : Sp := fun vs H Q _ => ∃ (n d : Int) (B : Nat), vs = [.int n, .int d] ∧ 0 < d ∧ n.natAbs < 2 ^ B ∧ d.natAbs < 2 ^ B ∧ 0 < B ∧ B ≤ 9000 ∧ ∀ H' p, Same H H' → IsQ K H' p ((n : Rat) / (d : Rat)) B → Q (.ref p) H'
def spRatio (K : PySem.W.Frag) : Sp := fun vs H Q _ => ∃ (n d : Int) (B : Nat), vs = [.int n, .int d] ∧ 0 < d ∧ n.natAbs < 2 ^ B ∧ d.natAbs < 2 ^ B ∧ 0 < B ∧ B ≤ 9000 ∧ ∀ H' p, Same H H' → IsQ K H' p ((n : Rat) / (d : Rat)) B → Q (.ref p) H'
def spTwo (K : PySem.W.Frag) (f : Rat → Rat → Rat) (g : Nat → Nat → Nat) : Sp := fun vs H Q _ => ∃ (p q : Addr) (x y : Rat) (B C : Nat), vs = [.ref p, .ref q] ∧ IsQ K H p x B ∧ IsQ K H q y C ∧ 0 < B ∧ 0 < C ∧ B + C ≤ 8000 ∧ ∀ H' p, Same H H' → IsQ K H' p (f x y) (g B C) → Q (.ref p) H'
abbrev spTimes (K : PySem.W.Frag) : Sp := spTwo K (· * ·) (· + ·)
abbrev spPlus (K : PySem.W.Frag) : Sp := spTwo K (· + ·) fun a b => a + b + 1
abbrev spMinus (K : PySem.W.Frag) : Sp := spTwo K (· - ·) fun a b => a + b + 1
def spSign : Sp := fun vs H Q _ => ∃ n : Int, vs = [.int n] ∧ Q (.int (sgI n)) H
def spIsSq : Sp := fun vs H Q _ => ∃ n : Int, vs = [.int n] ∧ 0 ≤ n ∧ n.natAbs < 2 ^ 2000 ∧ (NotSq n → Q (.bl false) H) ∧ (¬ NotSq n → Q (.bl true) H)
section
variable {P : Program} {w : World} {K : PySem.W.Frag} {mg : Str → Option Value} {base : Heap} {A : Ad}
theorem good_is_integer (F : IsF K "is_integer" "is_integer" s_is_integer A.is_integer) (T : Txt K mg A) : Good P w K mg base CX0 1 A.is_integer ["x"] (spIsInt K) := by
  obtain ⟨fd, F⟩ := F
  refine ⟨fd, F.ok sc_is_integer (fun vs H Q E h => ?_) (fun cdv A' outer s H vs Q E hr h => ?_), F.binds fun _ _ _ _ _ _ us hl => match us, hl with | [_], _ => rfl⟩
  · obtain ⟨x, rfl, _⟩ := h; rfl
  · obtain ⟨x, rfl, h⟩ := h
    refine ⟨_, (pss_one (ps_ret (pe_and (pe_callB call_isi (by rfl) T.n_isinstance (by decide +kernel) (pa_cons (pv 0) (pa_cons (pe_bltn (v := .ty "int") (by rfl) T.n_int (by decide +kernel) rfl) pa_nil))) (pe_one (pe_not (pe_callB call_isi (by rfl) T.n_isinstance (by decide +kernel) (pa_cons (pv 0) (pa_cons (pe_bltn (v := .ty "bool") (by rfl) T.n_bool (by decide +kernel) rfl) pa_nil)))))))), ?_⟩
    rcases h with ⟨i, rfl, q⟩ | ⟨rfl | ⟨b, rfl⟩ | ⟨z, rfl⟩ | ⟨p, xs, rfl, hp⟩, q⟩
    · exact ⟨_, rfl, _, _, _, _, true, rfl, .ty _, .base (.int i), kit_ty (by decide +kernel), _, rfl, iteT ⟨_, rfl, _, _, _, _, false, rfl, .ty _, .base (.int i), kit_ty (by decide +kernel), _, rfl, q⟩⟩
    · exact ⟨_, rfl, _, _, _, _, false, rfl, .ty _, .base .non, kit_ty (by decide +kernel), _, rfl, iteF q⟩
    · exact ⟨_, rfl, _, _, _, _, true, rfl, .ty _, .base (.bl b), kit_ty (by decide +kernel), _, rfl, iteT ⟨_, rfl, _, _, _, _, true, rfl, .ty _, .base (.bl b), kit_ty (by decide +kernel), _, rfl, q⟩⟩
    · exact ⟨_, rfl, _, _, _, _, false, rfl, .ty _, .base (.str z), kit_ty (by decide +kernel), _, rfl, iteF q⟩
    · exact ⟨_, rfl, _, _, _, _, false, rfl, .ty _, tyT hp, kit_ty (by decide +kernel), _, rfl, iteF q⟩
theorem good_sign (F : IsF K "sign" "sign" s_sign A.sign) (T : Txt K mg A) : Good P w K mg base CX0 1 A.sign ["n"] spSign := by
  obtain ⟨fd, F⟩ := F
  refine ⟨fd, F.ok sc_sign (fun vs H Q E h => ?_) (fun cdv A' outer s H vs Q E hr h => ?_), F.binds fun _ _ _ _ _ _ us hl => match us, hl with | [_], _ => rfl⟩
  · obtain ⟨x, rfl, _⟩ := h; rfl
  · obtain ⟨n, rfl, q⟩ := h
    refine ⟨_, (pss_one (ps_ret (pe_op op_sub (pe_callTy call_int1 (by rfl) T.n_int (by decide +kernel) (pa_cons (pe_cmpR op_gt (pv 0) pe_int (nomark _)) pa_nil)) (pe_callTy call_int1 (by rfl) T.n_int (by decide +kernel) (pa_cons (pe_cmpR op_lt (pv 0) pe_int (nomark _)) pa_nil))))), ?_⟩
    refine ⟨_, rfl, _, _, rfl, rfl, .inr ⟨_, rfl, _, rfl, _, _, rfl, rfl, .inr ⟨_, rfl, _, _, rfl, rfl, ?_⟩⟩⟩
    have e : (if decide ((0 : Int) < n) = true then (1 : Int) else 0) - (if decide (n < 0) = true then (1 : Int) else 0) = sgI n := by
      unfold sgI
      by_cases h1 : 0 < n
      · rw [decide_eq_true h1, decide_eq_false (by omega), if_pos rfl, if_neg (by decide), if_pos h1]; rfl
      · rw [decide_eq_false h1, if_neg (by decide), if_neg h1]
        by_cases h2 : n < 0
        · rw [decide_eq_true h2, if_pos rfl, if_pos h2]; rfl
        · rw [decide_eq_false h2, if_neg (by decide), if_neg h2]; rfl
    show Q (.int ((if decide ((0 : Int) < n) = true then (1 : Int) else 0) - (if decide (n < 0) = true then (1 : Int) else 0))) H
    rw [e]
    exact q
theorem good_reduced (F : IsF K "reduced" "reduced" s_reduced A.reduced) (T : Txt K mg A) : Good P w K mg base CX0 1 A.reduced ["n", "d"] (spReduced K) := by
  obtain ⟨fd, F⟩ := F
  refine ⟨fd, F.ok sc_reduced (fun vs H Q E h => ?_) (fun cdv A' outer s H vs Q E hr h => ?_), F.binds fun _ _ _ _ _ _ us hl => match us, hl with | [_, _], _ => rfl⟩
  · obtain ⟨n, d, B, rfl, _⟩ := h; rfl
  · obtain ⟨n, d, B, rfl, hd, hn, hdB, hB, hB9, k⟩ := h
    refine ⟨_, (pss_cons (ps_set (i := 2) sc_reduced.nd rfl (Or.inl rfl) (pe_callBfun cr_gcd (by rfl) T.g_gcd (pa_cons (pv 0) (pa_cons (pv 1) pa_nil))))
      (pss_one (ps_ret (pe_tup (pa_cons (pe_op op_fdivW (pv 0) (pv 2)) (pa_cons (pe_op op_fdivW (pv 1) (pv 2)) pa_nil)))))), ?_⟩
    have g0 : 0 < gc n d := gc_pos (by omega)
    have gB : (gc n d).natAbs < 2 ^ B := by have := gc_le (a := n) hd; omega
    have cd : ∀ i : Int, CDivW i (gc n d) := fun i => wide_div g0 gB hB hB9
    refine ⟨_, rfl, _, rfl, n, d, rfl, _, rfl, _, rfl, _, _, rfl, rfl, cd _, _, rfl, _, rfl, _, _, rfl, rfl, cd _, two_le, fun p hp => k _ p (Same.new hp) ?_⟩
    obtain ⟨h1, h2⟩ := red_val hd g0 (gc_l n d) (gc_r n d)
    exact ⟨_, _, sqt_new, h1, h2, div_lt g0 hn, div_lt g0 hdB⟩
end
end K12

set_option maxHeartbeats 4000000
namespace K12
open PySem PySem.Spec PyProof.Rows L2
/-- two factors below 2 ^ 9000 -/
theorem cmul {i j : Int} {a b : Nat} (ha : i.natAbs < 2 ^ a) (hb : j.natAbs < 2 ^ b) (h0 : 0 < a) (h1 : 0 < b) (h : a + b ≤ 1000000) : CMulW i j := wide_mul ha hb h0 h1 h
theorem mul_lt {i j : Int} {a b : Nat} (ha : i.natAbs < 2 ^ a) (hb : j.natAbs < 2 ^ b) : (i * j).natAbs < 2 ^ (a + b) := wide_lt ha hb
theorem rat_mul {a b c d : Int} (hb : 0 < b) (hd : 0 < d) : (a : Rat) / (b : Rat) * ((c : Rat) / (d : Rat)) = ((a * c : Int) : Rat) / ((b * d : Int) : Rat) := by
  have h1 := rne hb
  have h2 := rne hd
  rw [Rat.intCast_mul, Rat.intCast_mul]
  grind
theorem rat_add {a b c d : Int} (hb : 0 < b) (hd : 0 < d) : (a : Rat) / (b : Rat) + (c : Rat) / (d : Rat) = ((a * d + c * b : Int) : Rat) / ((b * d : Int) : Rat) := by
  have h1 := rne hb
  have h2 := rne hd
  rw [Rat.intCast_add, Rat.intCast_mul, Rat.intCast_mul, Rat.intCast_mul]
  grind
theorem rat_sub {a b c d : Int} (hb : 0 < b) (hd : 0 < d) : (a : Rat) / (b : Rat) - (c : Rat) / (d : Rat) = ((a * d - c * b : Int) : Rat) / ((b * d : Int) : Rat) := by
  have h1 := rne hb
  have h2 := rne hd
  rw [Rat.intCast_sub, Rat.intCast_mul, Rat.intCast_mul, Rat.intCast_mul]
  grind
section
variable {P : Program} {w : World} {K : PySem.W.Frag} {mg : Str → Option Value} {base : Heap} {A : Ad}
theorem good_times (F : IsF K "times" "times" s_times A.times) (T : Txt K mg A) (G1 : Good P w K mg base CX0 1 A.reduced ["n", "d"] (spReduced K)) : Good P w K mg base CX0 2 A.times ["a", "b"] (spTimes K) := by
  obtain ⟨fd, F⟩ := F
  obtain ⟨f1, G_reduced, b_reduced⟩ := G1
  refine ⟨fd, F.ok sc_times (fun vs H Q E h => ?_) (fun cdv A' outer s H vs Q E hr h => ?_), F.binds fun _ _ _ _ _ _ us hl => match us, hl with | [_, _], _ => rfl⟩
  · obtain ⟨p, q, x, y, B, C, rfl, _⟩ := h; rfl
  · obtain ⟨p, q, x, y, B, C, rfl, ⟨an, ad, hp, had, rfl, hn, hd⟩, ⟨bn, bd, hq, hbd, rfl, hn', hd'⟩, hB, hC, hBC, k⟩ := h
    refine ⟨_, (pss_one (ps_ret (pe_call G_reduced (hr.mono (by decide)) (by rfl) T.g_reduced T.k_reduced b_reduced .nil pass0 (pa_cons (pe_op op_mulW (pe_ix ix_tup (pv 0) pe_int (fun _ _ => rfl)) (pe_ix ix_tup (pv 1) pe_int (fun _ _ => rfl))) (pa_cons (pe_op op_mulW (pe_ix ix_tup (pv 0) pe_int (fun _ _ => rfl)) (pe_ix ix_tup (pv 1) pe_int (fun _ _ => rfl))) pa_nil))))), ?_⟩
    refine ⟨_, rfl, p, _, _, _, rfl, rfl, hp, rfl, _, rfl, q, _, _, _, rfl, rfl, hq, rfl, an, bn, rfl, rfl, cmul hn hn' hB hC (by omega), _, rfl, p, _, _, _, rfl, rfl, hp, rfl, _, rfl, q, _, _, _, rfl, rfl, hq, rfl, ad, bd, rfl, rfl, cmul hd hd' hB hC (by omega), ?_⟩
    refine ⟨_, _, B + C, rfl, Int.mul_pos had hbd, mul_lt hn hn', mul_lt hd hd', by omega, by omega, fun H' r s5 hr' => k H' r s5 ?_⟩
    show IsQ K H' r ((an : Rat) / (ad : Rat) * ((bn : Rat) / (bd : Rat))) (B + C)
    rw [rat_mul had hbd]
    exact hr'
theorem good_plus (F : IsF K "plus" "plus" s_plus A.plus) (T : Txt K mg A) (G1 : Good P w K mg base CX0 1 A.reduced ["n", "d"] (spReduced K)) : Good P w K mg base CX0 2 A.plus ["a", "b"] (spPlus K) := by
  obtain ⟨fd, F⟩ := F
  obtain ⟨f1, G_reduced, b_reduced⟩ := G1
  refine ⟨fd, F.ok sc_plus (fun vs H Q E h => ?_) (fun cdv A' outer s H vs Q E hr h => ?_), F.binds fun _ _ _ _ _ _ us hl => match us, hl with | [_, _], _ => rfl⟩
  · obtain ⟨p, q, x, y, B, C, rfl, _⟩ := h; rfl
  · obtain ⟨p, q, x, y, B, C, rfl, ⟨an, ad, hp, had, rfl, hn, hd⟩, ⟨bn, bd, hq, hbd, rfl, hn', hd'⟩, hB, hC, hBC, k⟩ := h
    refine ⟨_, (pss_one (ps_ret (pe_call G_reduced (hr.mono (by decide)) (by rfl) T.g_reduced T.k_reduced b_reduced .nil pass0 (pa_cons (pe_op op_add (pe_op op_mulW (pe_ix ix_tup (pv 0) pe_int (fun _ _ => rfl)) (pe_ix ix_tup (pv 1) pe_int (fun _ _ => rfl))) (pe_op op_mulW (pe_ix ix_tup (pv 0) pe_int (fun _ _ => rfl)) (pe_ix ix_tup (pv 1) pe_int (fun _ _ => rfl)))) (pa_cons (pe_op op_mulW (pe_ix ix_tup (pv 0) pe_int (fun _ _ => rfl)) (pe_ix ix_tup (pv 1) pe_int (fun _ _ => rfl))) pa_nil))))), ?_⟩
    refine ⟨_, rfl, p, _, _, _, rfl, rfl, hp, rfl, _, rfl, q, _, _, _, rfl, rfl, hq, rfl, an, bd, rfl, rfl, cmul hn hd' hB hC (by omega),
      _, rfl, p, _, _, _, rfl, rfl, hp, rfl, _, rfl, q, _, _, _, rfl, rfl, hq, rfl, ad, bn, rfl, rfl, cmul hd hn' hB hC (by omega), _, _, rfl, rfl,
      _, rfl, p, _, _, _, rfl, rfl, hp, rfl, _, rfl, q, _, _, _, rfl, rfl, hq, rfl, ad, bd, rfl, rfl, cmul hd hd' hB hC (by omega), ?_⟩
    refine ⟨_, _, B + C + 1, rfl, Int.mul_pos had hbd, ?_, lt_up (mul_lt hd hd') (by omega), by omega, by omega, fun H' r s5 hr' => k H' r s5 ?_⟩
    · have := lt_add (mul_lt hn hd') (mul_lt hd hn')
      exact lt_up this (by omega)
    · show IsQ K H' r ((an : Rat) / (ad : Rat) + (bn : Rat) / (bd : Rat)) (B + C + 1)
      rw [rat_add had hbd, Int.mul_comm bn ad]
      exact hr'
theorem good_minus (F : IsF K "minus" "minus" s_minus A.minus) (T : Txt K mg A) (G1 : Good P w K mg base CX0 1 A.reduced ["n", "d"] (spReduced K)) : Good P w K mg base CX0 2 A.minus ["a", "b"] (spMinus K) := by
  obtain ⟨fd, F⟩ := F
  obtain ⟨f1, G_reduced, b_reduced⟩ := G1
  refine ⟨fd, F.ok sc_minus (fun vs H Q E h => ?_) (fun cdv A' outer s H vs Q E hr h => ?_), F.binds fun _ _ _ _ _ _ us hl => match us, hl with | [_, _], _ => rfl⟩
  · obtain ⟨p, q, x, y, B, C, rfl, _⟩ := h; rfl
  · obtain ⟨p, q, x, y, B, C, rfl, ⟨an, ad, hp, had, rfl, hn, hd⟩, ⟨bn, bd, hq, hbd, rfl, hn', hd'⟩, hB, hC, hBC, k⟩ := h
    refine ⟨_, (pss_one (ps_ret (pe_call G_reduced (hr.mono (by decide)) (by rfl) T.g_reduced T.k_reduced b_reduced .nil pass0 (pa_cons (pe_op op_sub (pe_op op_mulW (pe_ix ix_tup (pv 0) pe_int (fun _ _ => rfl)) (pe_ix ix_tup (pv 1) pe_int (fun _ _ => rfl))) (pe_op op_mulW (pe_ix ix_tup (pv 0) pe_int (fun _ _ => rfl)) (pe_ix ix_tup (pv 1) pe_int (fun _ _ => rfl)))) (pa_cons (pe_op op_mulW (pe_ix ix_tup (pv 0) pe_int (fun _ _ => rfl)) (pe_ix ix_tup (pv 1) pe_int (fun _ _ => rfl))) pa_nil))))), ?_⟩
    refine ⟨_, rfl, p, _, _, _, rfl, rfl, hp, rfl, _, rfl, q, _, _, _, rfl, rfl, hq, rfl, an, bd, rfl, rfl, cmul hn hd' hB hC (by omega),
      _, rfl, p, _, _, _, rfl, rfl, hp, rfl, _, rfl, q, _, _, _, rfl, rfl, hq, rfl, ad, bn, rfl, rfl, cmul hd hn' hB hC (by omega), _, _, rfl, rfl,
      _, rfl, p, _, _, _, rfl, rfl, hp, rfl, _, rfl, q, _, _, _, rfl, rfl, hq, rfl, ad, bd, rfl, rfl, cmul hd hd' hB hC (by omega), ?_⟩
    refine ⟨_, _, B + C + 1, rfl, Int.mul_pos had hbd, ?_, lt_up (mul_lt hd hd') (by omega), by omega, by omega, fun H' r s5 hr' => k H' r s5 ?_⟩
    · have := lt_sub (mul_lt hn hd') (mul_lt hd hn')
      exact lt_up this (by omega)
    · show IsQ K H' r ((an : Rat) / (ad : Rat) - (bn : Rat) / (bd : Rat)) (B + C + 1)
      rw [rat_sub had hbd, Int.mul_comm bn ad]
      exact hr'
theorem good_ratio (F : IsF K "ratio" "ratio" s_ratio A.ratio) (T : Txt K mg A) (G1 : Good P w K mg base CX0 1 A.reduced ["n", "d"] (spReduced K)) : Good P w K mg base CX0 2 A.ratio ["n", "d"] (spRatio K) := by
  obtain ⟨fd, F⟩ := F
  obtain ⟨f1, G_reduced, b_reduced⟩ := G1
  refine ⟨fd, F.ok sc_ratio (fun vs H Q E h => ?_) (fun cdv A' outer s H vs Q E hr h => ?_), F.binds fun _ _ _ _ _ _ us hl => match us, hl with | [_, _], _ => rfl⟩
  · obtain ⟨n, d, B, rfl, _⟩ := h; rfl
  · obtain ⟨n, d, B, rfl, hd, hn, hdB, hB, hB9, k⟩ := h
    refine ⟨_, (pss_cons (ps_if (pt_cmpR op_eq (pv 1) pe_int (nomark _)) pss_never pss_nil)
      (pss_one (ps_ret (pe_ifExp (pt_cmpR op_gt (pv 1) pe_int (nomark _)) (pe_call G_reduced (hr.mono (by decide)) (by rfl) T.g_reduced T.k_reduced b_reduced .nil pass0 (pa_cons (pv 0) (pa_cons (pv 1) pa_nil))) (pe_call G_reduced (hr.mono (by decide)) (by rfl) T.g_reduced T.k_reduced b_reduced .nil pass0 (pa_cons (pe_un un_neg (pv 0)) (pa_cons (pe_un un_neg (pv 1)) pa_nil))))))), ?_⟩
    refine ⟨_, rfl, rfl, _, rfl, ite2 (fun h => absurd (of_decide_eq_true h) (fun z => by cases z; omega)) (fun _ => ?_)⟩
    refine ⟨_, rfl, _, _, rfl, rfl, _, rfl, ite2 (fun _ => ?_) (fun h => absurd (decide_eq_true hd) h)⟩
    exact ⟨_, rfl, _, rfl, n, d, B, rfl, hd, hn, hdB, hB, hB9, k⟩
theorem notSq_iff {n r : Int} (h0 : 0 ≤ n) (h : IsRoot r n) : r * r = n ↔ ¬ NotSq n := by
  obtain ⟨r0, r1, r2⟩ := h
  constructor
  · exact fun e z => z r e
  · intro hs
    obtain ⟨s, hs⟩ : ∃ s : Int, s * s = n := Classical.byContradiction fun z => hs fun s e => z ⟨s, e⟩
    -- |s| = r
    have e1 : (s.natAbs : Int) * (s.natAbs : Int) = n := by rw [← hs]; exact Int.natAbs_mul_self
    have s0 : (0 : Int) ≤ (s.natAbs : Int) := Int.natCast_nonneg _
    generalize (s.natAbs : Int) = t at *
    have h3 : t ≤ r := Int.not_lt.mp fun z => by
      have := isq (show 0 ≤ r + 1 by omega) (show r + 1 ≤ t by omega)
      omega
    have h4 : r ≤ t := Int.not_lt.mp fun z => by
      have h5 : t * t < (t + 1) * (t + 1) := by
        have : (t + 1) * (t + 1) = t * t + 2 * t + 1 := by grind
        omega
      have := isq (show 0 ≤ t + 1 by omega) (show t + 1 ≤ r by omega)
      omega
    have e : t = r := by omega
    rw [← e]; exact e1
theorem good_is_square (F : IsF K "is_square" "is_square" s_is_square A.is_square) (T : Txt K mg A) : Good P w K mg base CX0 1 A.is_square ["n"] spIsSq := by
  obtain ⟨fd, F⟩ := F
  refine ⟨fd, F.ok sc_is_square (fun vs H Q E h => ?_) (fun cdv A' outer s H vs Q E hr h => ?_), F.binds fun _ _ _ _ _ _ us hl => match us, hl with | [_], _ => rfl⟩
  · obtain ⟨n, rfl, _⟩ := h; rfl
  · obtain ⟨n, rfl, h0, hn, q1, q2⟩ := h
    refine ⟨_, (pss_one (ps_ret (pe_cmpR op_eq (pe_op op_mulW (pe_callBfun cr_isqrt (by rfl) T.g_isqrt (pa_cons (pv 0) pa_nil)) (pe_callBfun cr_isqrt (by rfl) T.g_isqrt (pa_cons (pv 0) pa_nil))) (pv 0) (nomark _)))), ?_⟩
    refine ⟨_, rfl, n, rfl, h0, lt_up hn (show 2000 ≤ 9000 by decide), fun z hz => ⟨_, rfl, n, rfl, h0, lt_up hn (show 2000 ≤ 9000 by decide), fun y hy => ⟨_, _, rfl, rfl, ?_, _, rfl, rfl, ?_⟩⟩⟩
    · obtain ⟨z0, z1, z2⟩ := hz
      obtain ⟨y0, y1, y2⟩ := hy
      have lt : ∀ r : Int, 0 ≤ r → r * r ≤ n → r.natAbs < 2 ^ 2000 := fun r r0 r1 => by
        have : r ≤ r * r := by
          by_cases hr : r = 0
          · rw [hr]; decide
          · have := Int.mul_le_mul_of_nonneg_left (show 1 ≤ r by omega) r0
            omega
        omega
      exact cmul (lt z z0 z1) (lt y y0 y1) (by decide) (by decide) (by decide)
    · have e : z = y := by
        obtain ⟨z0, z1, z2⟩ := hz
        obtain ⟨y0, y1, y2⟩ := hy
        have a1 : z ≤ y := Int.not_lt.mp fun q => by have := isq (show 0 ≤ y + 1 by omega) (show y + 1 ≤ z by omega); omega
        have a2 : y ≤ z := Int.not_lt.mp fun q => by have := isq (show 0 ≤ z + 1 by omega) (show z + 1 ≤ y by omega); omega
        omega
      subst e
      have hi := notSq_iff h0 hz
      by_cases hs : NotSq n
      · have : decide (V.int (z * z) = V.int n) = false := decide_eq_false fun e => by cases e; exact (hi.mp rfl) hs
        show Q (.bl (decide (V.int (z * z) = V.int n))) H
        rw [this]; exact q1 hs
      · have : decide (V.int (z * z) = V.int n) = true := decide_eq_true (by rw [hi.mpr hs])
        show Q (.bl (decide (V.int (z * z) = V.int n))) H
        rw [this]; exact q2 hs
end
end K12

set_option maxHeartbeats 4000000
namespace K12
open PySem PySem.Spec PyProof.Rows L2
theorem dI_t {a b : Int} (h : decide (V.int a = V.int b) = true) : a = b := by
  have := of_decide_eq_true h
  cases this; rfl
theorem dI_f {a b : Int} (h : ¬ decide (V.int a = V.int b) = true) : a ≠ b := fun e => h (decide_eq_true (by rw [e]))
theorem sg_div {n d : Int} (h : 0 < d) : sg ((n : Rat) / (d : Rat)) = sgI n := by
  rw [← sg_int, show (n : Rat) / (d : Rat) = (d : Rat)⁻¹ * (n : Rat) by rw [Rat.div_def]; grind]
  exact sg_scale (Rat.inv_pos.mpr (rpos h))
theorem sgI_lt (n : Int) : (sgI n).natAbs < 2 ^ 1 := by unfold sgI; split <;> (try split) <;> decide
theorem sg_lt (x : Rat) : (sg x).natAbs < 2 ^ 1 := by unfold sg; split <;> (try split) <;> decide
/-- a sign is what the numerator's is -/
theorem IsQ.sgn {K : PySem.W.Frag} {H : Hp} {p : Addr} {x : Rat} {B : Nat} (h : IsQ K H p x B) : ∃ n d : Int, SqT K H p [.int n, .int d] ∧ sgI n = sg x ∧ n.natAbs < 2 ^ B ∧ (∀ D : Int, sgI (n * D) = sg (x * (D : Rat))) := by
  obtain ⟨n, d, h1, h2, rfl, h4, h5⟩ := h
  refine ⟨n, d, h1, (sg_div h2).symm, h4, fun D => ?_⟩
  rw [show (n : Rat) / (d : Rat) * (D : Rat) = ((n * D : Int) : Rat) / (d : Rat) by rw [Rat.intCast_mul]; rw [Rat.div_def, Rat.div_def]; grind]
  exact (sg_div h2).symm
theorem isq_int {K : PySem.W.Frag} {H : Hp} {p : Addr} {D : Int} {B : Nat} (hD : D.natAbs < 2 ^ B) (hB : 0 < B) : IsQ K (upd H p (.tup [.int D, .int 1])) p (D : Rat) B := by
  refine ⟨D, 1, sqt_new, by decide, ?_, hD, ?_⟩
  · rw [show ((1 : Int) : Rat) = 1 by simp]; grind
  · have := pow_le (show 1 ≤ B by omega)
    omega
def spSqS (K : PySem.W.Frag) : Sp := fun vs H Q _ => ∃ (p q : Addr) (x y : Rat) (D : Int) (B C G : Nat), vs = [.ref p, .ref q, .int D] ∧ IsQ K H p x B ∧ IsQ K H q y C ∧ D.natAbs < 2 ^ G ∧ 0 < B ∧ 0 < C ∧ 0 < G ∧ 2 * B + 2 * C + G ≤ 8000 ∧
  ∀ H', Same H H' → Q (.int (S1 x (sg (y * (D : Rat))) ((D : Rat) * (y * y)))) H'
def spTwoR (K : PySem.W.Frag) : Sp := fun vs H Q _ => ∃ (p q : Addr) (x y : Rat) (D M : Int) (B C G : Nat), vs = [.ref p, .int D, .ref q, .int M] ∧ IsQ K H p x B ∧ IsQ K H q y C ∧ D.natAbs < 2 ^ G ∧ M.natAbs < 2 ^ G ∧ 0 < B ∧ 0 < C ∧ 0 < G ∧ 2 * B + 2 * C + 2 * G ≤ 8000 ∧
  ∀ H', Same H H' → Q (.int (S2 (sg (x * (D : Rat))) ((D : Rat) * (x * x)) (sg (y * (M : Rat))) ((M : Rat) * (y * y)))) H'
def spTot (K : PySem.W.Frag) : Sp := fun vs H Q _ => ∃ (r p q : Addr) (z x y : Rat) (D M : Int) (R B C G : Nat), vs = [.ref r, .ref p, .int D, .ref q, .int M] ∧ IsQ K H r z R ∧ IsQ K H p x B ∧ IsQ K H q y C ∧ D.natAbs < 2 ^ G ∧ M.natAbs < 2 ^ G ∧ 0 < R ∧ 0 < B ∧ 0 < C ∧ 0 < G ∧
  4 * R + 6 * B + 6 * C + 6 * G ≤ 7900 ∧
  ∀ H', Same H H' → Q (.int (S3 z (sg (x * (D : Rat))) ((D : Rat) * (x * x)) (sg (y * (M : Rat))) ((M : Rat) * (y * y)))) H'
section
variable {P : Program} {w : World} {K : PySem.W.Frag} {mg : Str → Option Value} {base : Heap} {A : Ad}
theorem good_square_sign (F : IsF K "square_sign" "square_sign" s_square_sign A.square_sign) (T : Txt K mg A) (Gs : Good P w K mg base CX0 1 A.sign ["n"] spSign) (Gt : Good P w K mg base CX0 2 A.times ["a", "b"] (spTimes K)) (Gm : Good P w K mg base CX0 2 A.minus ["a", "b"] (spMinus K)) :
    Good P w K mg base CX0 3 A.square_sign ["x", "y", "inside"] (spSqS K) := by
  obtain ⟨fd, F⟩ := F
  obtain ⟨f1, G_sign, b_sign⟩ := Gs
  obtain ⟨f2, G_times, b_times⟩ := Gt
  obtain ⟨f3, G_minus, b_minus⟩ := Gm
  refine ⟨fd, F.ok sc_square_sign (fun vs H Q E h => ?_) (fun cdv A' outer s H vs Q E hr h => ?_), F.binds fun _ _ _ _ _ _ us hl => match us, hl with | [_, _, _], _ => rfl⟩
  · obtain ⟨p, q, x, y, D, B, C, G, rfl, _⟩ := h; rfl
  · obtain ⟨p, q, x, y, D, B, C, G, rfl, hx, hy, hD, hB, hC, hG, hs, k⟩ := h
    refine ⟨_, (pss_cons (ps_set (i := 3) sc_square_sign.nd rfl (Or.inl rfl) (pe_call G_sign (hr.mono (by decide)) (by rfl) T.g_sign T.k_sign b_sign .nil pass0 (pa_cons (pe_ix ix_tup (pv 0) pe_int (fun _ _ => rfl)) pa_nil)))
      (pss_cons (ps_set (i := 4) sc_square_sign.nd rfl (Or.inl rfl) (pe_call G_sign (hr.mono (by decide)) (by rfl) T.g_sign T.k_sign b_sign .nil pass0 (pa_cons (pe_op op_mulW (pe_ix ix_tup (pv 1) pe_int (fun _ _ => rfl)) (pv 2)) pa_nil)))
      (pss_cons (ps_if (PW.pt (pw_or (pt_cmpR op_eq (pv 4) pe_int (nomark _)) (pw_or1 (pt_cmpR op_eq (pv 3) (pv 4) (nomark _))))) (pss_one (ps_ret (pv 3))) pss_nil)
      (pss_cons (ps_if (pt_cmpR op_eq (pv 3) pe_int (nomark _)) (pss_one (ps_ret (pv 4))) pss_nil)
      (pss_one (ps_ret (pe_op op_mulW (pv 3) (pe_call G_sign (hr.mono (by decide)) (by rfl) T.g_sign T.k_sign b_sign .nil pass0 (pa_cons (pe_ix ix_tup (pe_call G_minus (hr.mono (by decide)) (by rfl) T.g_minus T.k_minus b_minus .nil pass0 (pa_cons (pe_call G_times (hr.mono (by decide)) (by rfl) T.g_times T.k_times b_times .nil pass0 (pa_cons (pv 0) (pa_cons (pv 0) pa_nil))) (pa_cons (pe_call G_times (hr.mono (by decide)) (by rfl) T.g_times T.k_times b_times .nil pass0 (pa_cons (pe_tup (pa_cons (pv 2) (pa_cons pe_int pa_nil))) (pa_cons (pe_call G_times (hr.mono (by decide)) (by rfl) T.g_times T.k_times b_times .nil pass0 (pa_cons (pv 1) (pa_cons (pv 1) pa_nil))) pa_nil))) pa_nil))) pe_int (fun _ _ => rfl)) pa_nil))))))))), ?_⟩
    obtain ⟨xn, xd, xp, xs, xl, _⟩ := hx.sgn
    obtain ⟨yn, yd, yp, _, yl, ys⟩ := hy.sgn
    refine ⟨_, rfl, p, _, _, _, rfl, rfl, xp, rfl, xn, rfl, _, rfl, q, _, _, _, rfl, rfl, yp, rfl, _, rfl, yn, D, rfl, rfl, cmul yl hD hC hG (by omega), _, rfl, ?_⟩
    rw [xs, ys D]
    have kk : S1 x (sg (y * (D : Rat))) ((D : Rat) * (y * y)) = if sg (y * (D : Rat)) = 0 ∨ sg x = sg (y * (D : Rat)) then sg x else if sg x = 0 then sg (y * (D : Rat)) else sg x * sg (x * x - (D : Rat) * (y * y)) := rfl
    rw [kk] at k
    have ret1 : (sg (y * (D : Rat)) = 0 ∨ sg x = sg (y * (D : Rat))) → Q (.int (sg x)) H := fun c => by
      have := k H (Same.refl H)
      rw [if_pos c] at this; exact this
    refine ⟨_, rfl, rfl, _, rfl, ite2 (fun h1 => iteT ⟨_, rfl, ret1 (.inl (dI_t h1))⟩) (fun h1 => ⟨_, rfl, _, rfl, rfl, _, rfl, ite2 (fun h2 => ⟨_, rfl, ret1 (.inr (dI_t h2))⟩) (fun h2 => ?_)⟩)⟩
    have n1 : ¬ (sg (y * (D : Rat)) = 0 ∨ sg x = sg (y * (D : Rat))) := fun z => z.elim (dI_f h1) (dI_f h2)
    rw [if_neg n1] at k
    refine ⟨_, rfl, rfl, _, rfl, ite2 (fun h3 => ⟨_, rfl, ?_⟩) (fun h3 => ?_)⟩
    · rw [if_pos (dI_t h3)] at k
      exact k H (Same.refl H)
    · rw [if_neg (dI_f h3)] at k
      -- first * sign(minus(times(x, x), times((inside, 1), times(y, y)))[0])
      refine ⟨_, rfl, _, rfl, _, rfl, p, p, x, x, B, B, rfl, hx, hx, hB, hB, by omega, fun H1 r1 e1 i1 => ?_⟩
      refine ⟨_, rfl, two_le, fun t ht => ⟨_, rfl, _, rfl, q, q, y, y, C, C, rfl, (hy.same e1).same (Same.new ht), (hy.same e1).same (Same.new ht), hC, hC, by omega, fun H2 r2 e2 i2 => ?_⟩⟩
      have it : IsQ K H2 t (D : Rat) G := (isq_int hD hG).same e2
      refine ⟨t, r2, (D : Rat), y * y, G, C + C, rfl, it, i2, hG, by omega, by omega, fun H3 r3 e3 i3 => ?_⟩
      have i1' : IsQ K H3 r1 (x * x) (B + B) := ((i1.same (Same.new ht)).same e2).same e3
      refine ⟨r1, r3, x * x, (D : Rat) * (y * y), B + B, G + (C + C), rfl, i1', i3, by omega, by omega, by omega, fun H4 r4 e4 i4 => ?_⟩
      obtain ⟨n, d, np, ns, _, _⟩ := i4.sgn
      have q4 := k H4 ((((e1.trans (Same.new ht)).trans e2).trans e3).trans e4)
      refine ⟨r4, _, _, _, rfl, rfl, np, rfl, n, rfl, _, _, rfl, rfl, cmul (sg_lt x) (sgI_lt n) (by decide) (by decide) (by decide), ?_⟩
      show Q (.int (sg x * sgI n)) H4
      rw [ns]
      exact q4
end
end K12

set_option maxHeartbeats 4000000
namespace K12
open PySem PySem.Spec PyProof.Rows L2
theorem S2_lt {s t : Int} {P Q : Rat} (h : s.natAbs < 2 ^ 1) : (S2 s P t Q).natAbs < 2 ^ 1 := by
  unfold S2
  split
  · exact sgI_lt _
  · have h2 := sg_lt (P - Q)
    rw [Int.natAbs_mul]
    have : s.natAbs * (sg (P - Q)).natAbs ≤ 1 * 1 := Nat.mul_le_mul (by omega) (by omega)
    omega
theorem S1_lt {s : Int} {a P : Rat} (h : s.natAbs < 2 ^ 1) : (S1 a s P).natAbs < 2 ^ 1 := by
  unfold S1
  split
  · exact sg_lt _
  · split
    · exact h
    · have h1 := sg_lt a
      have h2 := sg_lt (a * a - P)
      rw [Int.natAbs_mul]
      have : (sg a).natAbs * (sg (a * a - P)).natAbs ≤ 1 * 1 := Nat.mul_le_mul (by omega) (by omega)
      omega
section
variable {P : Program} {w : World} {K : PySem.W.Frag} {mg : Str → Option Value} {base : Heap} {A : Ad}
theorem good_two_roots_sign (F : IsF K "two_roots_sign" "two_roots_sign" s_two_roots_sign A.two_roots_sign) (T : Txt K mg A) (Gs : Good P w K mg base CX0 1 A.sign ["n"] spSign) (Gt : Good P w K mg base CX0 2 A.times ["a", "b"] (spTimes K)) (Gm : Good P w K mg base CX0 2 A.minus ["a", "b"] (spMinus K)) :
    Good P w K mg base CX0 3 A.two_roots_sign ["u", "d", "v", "e"] (spTwoR K) := by
  obtain ⟨fd, F⟩ := F
  obtain ⟨f1, G_sign, b_sign⟩ := Gs
  obtain ⟨f2, G_times, b_times⟩ := Gt
  obtain ⟨f3, G_minus, b_minus⟩ := Gm
  refine ⟨fd, F.ok sc_two_roots_sign (fun vs H Q E h => ?_) (fun cdv A' outer s H vs Q E hr h => ?_), F.binds fun _ _ _ _ _ _ us hl => match us, hl with | [_, _, _, _], _ => rfl⟩
  · obtain ⟨p, q, x, y, D, M, B, C, G, rfl, _⟩ := h; rfl
  · obtain ⟨p, q, x, y, D, M, B, C, G, rfl, hx, hy, hD, hM, hB, hC, hG, hs, k⟩ := h
    refine ⟨_, (pss_cons (ps_set (i := 4) sc_two_roots_sign.nd rfl (Or.inl rfl) (pe_call G_sign (hr.mono (by decide)) (by rfl) T.g_sign T.k_sign b_sign .nil pass0 (pa_cons (pe_op op_mulW (pe_ix ix_tup (pv 0) pe_int (fun _ _ => rfl)) (pv 1)) pa_nil)))
      (pss_cons (ps_set (i := 5) sc_two_roots_sign.nd rfl (Or.inl rfl) (pe_call G_sign (hr.mono (by decide)) (by rfl) T.g_sign T.k_sign b_sign .nil pass0 (pa_cons (pe_op op_mulW (pe_ix ix_tup (pv 2) pe_int (fun _ _ => rfl)) (pv 3)) pa_nil)))
      (pss_cons (ps_if (PW.pt (pw_or (pt_cmpR op_eq (pv 4) pe_int (nomark _)) (pw_or (pt_cmpR op_eq (pv 5) pe_int (nomark _)) (pw_or1 (pt_cmpR op_eq (pv 4) (pv 5) (nomark _)))))) (pss_one (ps_ret (pe_call G_sign (hr.mono (by decide)) (by rfl) T.g_sign T.k_sign b_sign .nil pass0 (pa_cons (pe_op op_add (pv 4) (pv 5)) pa_nil)))) pss_nil)
      (pss_one (ps_ret (pe_op op_mulW (pv 4) (pe_call G_sign (hr.mono (by decide)) (by rfl) T.g_sign T.k_sign b_sign .nil pass0 (pa_cons (pe_ix ix_tup (pe_call G_minus (hr.mono (by decide)) (by rfl) T.g_minus T.k_minus b_minus .nil pass0 (pa_cons (pe_call G_times (hr.mono (by decide)) (by rfl) T.g_times T.k_times b_times .nil pass0 (pa_cons (pe_tup (pa_cons (pv 1) (pa_cons pe_int pa_nil))) (pa_cons (pe_call G_times (hr.mono (by decide)) (by rfl) T.g_times T.k_times b_times .nil pass0 (pa_cons (pv 0) (pa_cons (pv 0) pa_nil))) pa_nil))) (pa_cons (pe_call G_times (hr.mono (by decide)) (by rfl) T.g_times T.k_times b_times .nil pass0 (pa_cons (pe_tup (pa_cons (pv 3) (pa_cons pe_int pa_nil))) (pa_cons (pe_call G_times (hr.mono (by decide)) (by rfl) T.g_times T.k_times b_times .nil pass0 (pa_cons (pv 2) (pa_cons (pv 2) pa_nil))) pa_nil))) pa_nil))) pe_int (fun _ _ => rfl)) pa_nil)))))))), ?_⟩
    obtain ⟨xn, xd, xp, _, xl, xs⟩ := hx.sgn
    obtain ⟨yn, yd, yp, _, yl, ys⟩ := hy.sgn
    refine ⟨_, rfl, p, _, _, _, rfl, rfl, xp, rfl, _, rfl, xn, D, rfl, rfl, cmul xl hD hB hG (by omega), _, rfl, _, rfl, q, _, _, _, rfl, rfl, yp, rfl, _, rfl, yn, M, rfl, rfl, cmul yl hM hC hG (by omega), _, rfl, ?_⟩
    rw [xs D, ys M]
    have sl1 := sg_lt (x * (D : Rat))
    have sl2 := sg_lt (y * (M : Rat))
    generalize sg (x * (D : Rat)) = s1 at *
    generalize sg (y * (M : Rat)) = s2 at *
    have kk : S2 s1 ((D : Rat) * (x * x)) s2 ((M : Rat) * (y * y)) = if s1 = 0 ∨ s2 = 0 ∨ s1 = s2 then sgI (s1 + s2) else s1 * sg ((D : Rat) * (x * x) - (M : Rat) * (y * y)) := rfl
    rw [kk] at k
    have ret1 : (s1 = 0 ∨ s2 = 0 ∨ s1 = s2) → Q (.int (sgI (s1 + s2))) H := fun c => by
      have := k H (Same.refl H)
      rw [if_pos c] at this; exact this
    have fin : (s1 = 0 ∨ s2 = 0 ∨ s1 = s2) → ∃ v, [some (V.ref p), some (V.int D), some (V.ref q), some (V.int M), some (V.int s1), some (V.int s2)][4]? = some (some v) ∧ ∃ u, [some (V.ref p), some (V.int D), some (V.ref q), some (V.int M), some (V.int s1), some (V.int s2)][5]? = some (some u) ∧ ∃ i j, v = V.int i ∧ u = V.int j ∧ ∃ n, [V.int (i + j)] = [V.int n] ∧ Q (V.int (sgI n)) H := fun c =>
      ⟨_, rfl, _, rfl, s1, s2, rfl, rfl, _, rfl, ret1 c⟩
    refine ⟨_, rfl, rfl, _, rfl, ite2 (fun h1 => iteT (fin (.inl (dI_t h1)))) (fun h1 => ⟨_, rfl, rfl, _, rfl, ite2 (fun h2 => iteT (fin (.inr (.inl (dI_t h2))))) (fun h2 => ⟨_, rfl, _, rfl, rfl, _, rfl, ite2 (fun h3 => fin (.inr (.inr (dI_t h3)))) (fun h3 => ?_)⟩)⟩)⟩
    have n1 : ¬ (s1 = 0 ∨ s2 = 0 ∨ s1 = s2) := fun z => z.elim (dI_f h1) (fun z => z.elim (dI_f h2) (dI_f h3))
    rw [if_neg n1] at k
    refine ⟨_, rfl, _, rfl, two_le, fun t ht => ⟨_, rfl, _, rfl, p, p, x, x, B, B, rfl, hx.same (Same.new ht), hx.same (Same.new ht), hB, hB, by omega, fun H1 r1 e1 i1 => ?_⟩⟩
    have it : IsQ K H1 t (D : Rat) G := (isq_int hD hG).same e1
    refine ⟨t, r1, (D : Rat), x * x, G, B + B, rfl, it, i1, hG, by omega, by omega, fun H2 r2 e2 i2 => ?_⟩
    have s02 : Same H H2 := ((Same.new ht).trans e1).trans e2
    refine ⟨_, rfl, two_le, fun t' ht' => ⟨_, rfl, _, rfl, q, q, y, y, C, C, rfl, (hy.same s02).same (Same.new ht'), (hy.same s02).same (Same.new ht'), hC, hC, by omega, fun H3 r3 e3 i3 => ?_⟩⟩
    have it' : IsQ K H3 t' (M : Rat) G := (isq_int hM hG).same e3
    refine ⟨t', r3, (M : Rat), y * y, G, C + C, rfl, it', i3, hG, by omega, by omega, fun H4 r4 e4 i4 => ?_⟩
    have i2' : IsQ K H4 r2 ((D : Rat) * (x * x)) (G + (B + B)) := ((i2.same (Same.new ht')).same e3).same e4
    refine ⟨r2, r4, (D : Rat) * (x * x), (M : Rat) * (y * y), G + (B + B), G + (C + C), rfl, i2', i4, by omega, by omega, by omega, fun H5 r5 e5 i5 => ?_⟩
    obtain ⟨n, d, np, ns, _, _⟩ := i5.sgn
    have q5 := k H5 ((((s02.trans (Same.new ht')).trans e3).trans e4).trans e5)
    refine ⟨r5, _, _, _, rfl, rfl, np, rfl, n, rfl, _, _, rfl, rfl, cmul sl1 (sgI_lt n) (by decide) (by decide) (by decide), ?_⟩
    show Q (.int (s1 * sgI n)) H5
    rw [ns]
    exact q5
theorem good_total_sign (F : IsF K "total_sign" "total_sign" s_total_sign A.total_sign) (T : Txt K mg A) (Gs : Good P w K mg base CX0 1 A.sign ["n"] spSign) (Gt : Good P w K mg base CX0 2 A.times ["a", "b"] (spTimes K)) (Gm : Good P w K mg base CX0 2 A.minus ["a", "b"] (spMinus K))
    (Gp : Good P w K mg base CX0 2 A.plus ["a", "b"] (spPlus K)) (G2 : Good P w K mg base CX0 3 A.two_roots_sign ["u", "d", "v", "e"] (spTwoR K)) (Gq : Good P w K mg base CX0 3 A.square_sign ["x", "y", "inside"] (spSqS K)) :
    Good P w K mg base CX0 4 A.total_sign ["r", "u", "d", "v", "e"] (spTot K) := by
  obtain ⟨fd, F⟩ := F
  obtain ⟨f1, G_sign, b_sign⟩ := Gs
  obtain ⟨f2, G_times, b_times⟩ := Gt
  obtain ⟨f3, G_minus, b_minus⟩ := Gm
  obtain ⟨f4, G_plus, b_plus⟩ := Gp
  obtain ⟨f5, G_two_roots_sign, b_two_roots_sign⟩ := G2
  obtain ⟨f6, G_square_sign, b_square_sign⟩ := Gq
  refine ⟨fd, F.ok sc_total_sign (fun vs H Q E h => ?_) (fun cdv A' outer s H vs Q E hr h => ?_), F.binds fun _ _ _ _ _ _ us hl => match us, hl with | [_, _, _, _, _], _ => rfl⟩
  · obtain ⟨r, p, q, z, x, y, D, M, R, B, C, G, rfl, _⟩ := h; rfl
  · obtain ⟨r, p, q, z, x, y, D, M, R, B, C, G, rfl, hz, hx, hy, hD, hM, hR, hB, hC, hG, hs, k⟩ := h
    refine ⟨_, (pss_cons (ps_set (i := 5) sc_total_sign.nd rfl (Or.inl rfl) (pe_call G_sign (hr.mono (by decide)) (by rfl) T.g_sign T.k_sign b_sign .nil pass0 (pa_cons (pe_ix ix_tup (pv 0) pe_int (fun _ _ => rfl)) pa_nil)))
      (pss_cons (ps_set (i := 6) sc_total_sign.nd rfl (Or.inl rfl) (pe_call G_two_roots_sign (hr.mono (by decide)) (by rfl) T.g_two_roots_sign T.k_two_roots_sign b_two_roots_sign .nil pass0 (pa_cons (pv 1) (pa_cons (pv 2) (pa_cons (pv 3) (pa_cons (pv 4) pa_nil))))))
      (pss_cons (ps_if (PW.pt (pw_or (pt_cmpR op_eq (pv 5) pe_int (nomark _)) (pw_or (pt_cmpR op_eq (pv 6) pe_int (nomark _)) (pw_or1 (pt_cmpR op_eq (pv 5) (pv 6) (nomark _)))))) (pss_one (ps_ret (pe_call G_sign (hr.mono (by decide)) (by rfl) T.g_sign T.k_sign b_sign .nil pass0 (pa_cons (pe_op op_add (pv 5) (pv 6)) pa_nil)))) pss_nil)
      (pss_cons (ps_set (i := 7) sc_total_sign.nd rfl (Or.inl rfl) (pe_call G_plus (hr.mono (by decide)) (by rfl) T.g_plus T.k_plus b_plus .nil pass0 (pa_cons (pe_call G_times (hr.mono (by decide)) (by rfl) T.g_times T.k_times b_times .nil pass0 (pa_cons (pe_tup (pa_cons (pv 2) (pa_cons pe_int pa_nil))) (pa_cons (pe_call G_times (hr.mono (by decide)) (by rfl) T.g_times T.k_times b_times .nil pass0 (pa_cons (pv 1) (pa_cons (pv 1) pa_nil))) pa_nil))) (pa_cons (pe_call G_times (hr.mono (by decide)) (by rfl) T.g_times T.k_times b_times .nil pass0 (pa_cons (pe_tup (pa_cons (pv 4) (pa_cons pe_int pa_nil))) (pa_cons (pe_call G_times (hr.mono (by decide)) (by rfl) T.g_times T.k_times b_times .nil pass0 (pa_cons (pv 3) (pa_cons (pv 3) pa_nil))) pa_nil))) pa_nil))))
      (pss_one (ps_ret (pe_op op_mulW (pv 5) (pe_call G_square_sign (hr.mono (by decide)) (by rfl) T.g_square_sign T.k_square_sign b_square_sign .nil pass0 (pa_cons (pe_call G_minus (hr.mono (by decide)) (by rfl) T.g_minus T.k_minus b_minus .nil pass0 (pa_cons (pe_call G_times (hr.mono (by decide)) (by rfl) T.g_times T.k_times b_times .nil pass0 (pa_cons (pv 0) (pa_cons (pv 0) pa_nil))) (pa_cons (pv 7) pa_nil))) (pa_cons (pe_call G_times (hr.mono (by decide)) (by rfl) T.g_times T.k_times b_times .nil pass0 (pa_cons (pe_tup (pa_cons (pe_un un_neg pe_int) (pa_cons pe_int pa_nil))) (pa_cons (pe_call G_times (hr.mono (by decide)) (by rfl) T.g_times T.k_times b_times .nil pass0 (pa_cons (pv 1) (pa_cons (pv 3) pa_nil))) pa_nil))) (pa_cons (pe_op op_mulW (pv 2) (pv 4)) pa_nil))))))))))), ?_⟩
    obtain ⟨zn, zd, zp, zs, zl, _⟩ := hz.sgn
    refine ⟨_, rfl, r, _, _, _, rfl, rfl, zp, rfl, zn, rfl, ?_⟩
    rw [zs]
    refine ⟨_, rfl, _, rfl, _, rfl, _, rfl, p, q, x, y, D, M, B, C, G, rfl, hx, hy, hD, hM, hB, hC, hG, by omega, fun H0 e0 => ?_⟩
    have sl1 := sg_lt (x * (D : Rat))
    have slz := sg_lt z
    have el : sg (-2 * (x * y) * ((D * M : Int) : Rat)) = -(sg (x * (D : Rat)) * sg (y * (M : Rat))) := by
      rw [← sg_mul, ← sg_neg_eq, Rat.intCast_mul, show -2 * (x * y) * ((D : Rat) * (M : Rat)) = 2 * -(x * (D : Rat) * (y * (M : Rat))) by grind]
      exact sg_scale (by decide)
    have ep : ((D * M : Int) : Rat) * (-2 * (x * y) * (-2 * (x * y))) = 4 * ((D : Rat) * (x * x) * ((M : Rat) * (y * y))) := by
      rw [Rat.intCast_mul]; grind
    have s2l : (S2 (sg (x * (D : Rat))) ((D : Rat) * (x * x)) (sg (y * (M : Rat))) ((M : Rat) * (y * y))).natAbs < 2 ^ 1 := S2_lt sl1
    have kk : S3 z (sg (x * (D : Rat))) ((D : Rat) * (x * x)) (sg (y * (M : Rat))) ((M : Rat) * (y * y)) =
        if sg z = 0 ∨ S2 (sg (x * (D : Rat))) ((D : Rat) * (x * x)) (sg (y * (M : Rat))) ((M : Rat) * (y * y)) = 0 ∨ sg z = S2 (sg (x * (D : Rat))) ((D : Rat) * (x * x)) (sg (y * (M : Rat))) ((M : Rat) * (y * y)) then sgI (sg z + S2 (sg (x * (D : Rat))) ((D : Rat) * (x * x)) (sg (y * (M : Rat))) ((M : Rat) * (y * y)))
        else sg z * S1 (z * z - ((D : Rat) * (x * x) + (M : Rat) * (y * y))) (-(sg (x * (D : Rat)) * sg (y * (M : Rat)))) (4 * ((D : Rat) * (x * x) * ((M : Rat) * (y * y)))) := rfl
    rw [kk, ← el, ← ep] at k
    generalize S2 (sg (x * (D : Rat))) ((D : Rat) * (x * x)) (sg (y * (M : Rat))) ((M : Rat) * (y * y)) = s2 at *
    generalize sg z = s1 at *
    have ret1 : (s1 = 0 ∨ s2 = 0 ∨ s1 = s2) → Q (.int (sgI (s1 + s2))) H0 := fun c => by
      have := k H0 e0
      rw [if_pos c] at this; exact this
    refine ⟨_, rfl, rfl, _, rfl, ite2 (fun h1 => iteT ⟨_, rfl, _, rfl, s1, s2, rfl, rfl, _, rfl, ret1 (.inl (dI_t h1))⟩) (fun h1 => ⟨_, rfl, rfl, _, rfl, ite2 (fun h2 => iteT ⟨_, rfl, _, rfl, s1, s2, rfl, rfl, _, rfl, ret1 (.inr (.inl (dI_t h2)))⟩)
      (fun h2 => ⟨_, rfl, _, rfl, rfl, _, rfl, ite2 (fun h3 => ⟨_, rfl, _, rfl, s1, s2, rfl, rfl, _, rfl, ret1 (.inr (.inr (dI_t h3)))⟩) (fun h3 => ?_)⟩)⟩)⟩
    have n1 : ¬ (s1 = 0 ∨ s2 = 0 ∨ s1 = s2) := fun z => z.elim (dI_f h1) (fun z => z.elim (dI_f h2) (dI_f h3))
    rw [if_neg n1] at k
    have hx0 := hx.same e0
    have hy0 := hy.same e0
    -- squares
    refine ⟨_, rfl, two_le, fun t ht => ⟨_, rfl, _, rfl, p, p, x, x, B, B, rfl, hx0.same (Same.new ht), hx0.same (Same.new ht), hB, hB, by omega, fun H1 r1 e1 i1 => ?_⟩⟩
    have it : IsQ K H1 t (D : Rat) G := (isq_int hD hG).same e1
    refine ⟨t, r1, (D : Rat), x * x, G, B + B, rfl, it, i1, hG, by omega, by omega, fun H2 r2 e2 i2 => ?_⟩
    have s02 : Same H0 H2 := ((Same.new ht).trans e1).trans e2
    refine ⟨_, rfl, two_le, fun t' ht' => ⟨_, rfl, _, rfl, q, q, y, y, C, C, rfl, (hy0.same s02).same (Same.new ht'), (hy0.same s02).same (Same.new ht'), hC, hC, by omega, fun H3 r3 e3 i3 => ?_⟩⟩
    have it' : IsQ K H3 t' (M : Rat) G := (isq_int hM hG).same e3
    refine ⟨t', r3, (M : Rat), y * y, G, C + C, rfl, it', i3, hG, by omega, by omega, fun H4 r4 e4 i4 => ?_⟩
    have i2' : IsQ K H4 r2 ((D : Rat) * (x * x)) (G + (B + B)) := ((i2.same (Same.new ht')).same e3).same e4
    refine ⟨r2, r4, (D : Rat) * (x * x), (M : Rat) * (y * y), G + (B + B), G + (C + C), rfl, i2', i4, by omega, by omega, by omega, fun H5 r5 e5 i5 => ?_⟩
    have s05 : Same H H5 := ((((e0.trans s02).trans (Same.new ht')).trans e3).trans e4).trans e5
    -- first * square_sign(minus(times(r, r), squares), times((-2, 1), times(u, v)), d * e)
    refine ⟨_, rfl, _, rfl, _, rfl, r, r, z, z, R, R, rfl, hz.same s05, hz.same s05, hR, hR, by omega, fun H6 r6 e6 i6 => ?_⟩
    refine ⟨_, rfl, r6, r5, z * z, (D : Rat) * (x * x) + (M : Rat) * (y * y), R + R, G + (B + B) + (G + (C + C)) + 1, rfl, i6, i5.same e6, by omega, by omega, by omega, fun H7 r7 e7 i7 => ?_⟩
    have s07 : Same H H7 := (s05.trans e6).trans e7
    refine ⟨_, rfl, two_le, fun t2 ht2 => ⟨_, rfl, _, rfl, p, q, x, y, B, C, rfl, (hx.same s07).same (Same.new ht2), (hy.same s07).same (Same.new ht2), hB, hC, by omega, fun H8 r8 e8 i8 => ?_⟩⟩
    have it2 : IsQ K H8 t2 ((-2 : Int) : Rat) 2 := (isq_int (by decide) (by decide)).same e8
    refine ⟨t2, r8, ((-2 : Int) : Rat), x * y, 2, B + C, rfl, it2, i8, by omega, by omega, by omega, fun H9 r9 e9 i9 => ?_⟩
    have s9 : Same H H9 := ((s07.trans (Same.new ht2)).trans e8).trans e9
    refine ⟨_, rfl, _, rfl, D, M, rfl, rfl, cmul hD hM hG hG (by omega), ?_⟩
    have i7' : IsQ K H9 r7 (z * z - ((D : Rat) * (x * x) + (M : Rat) * (y * y))) (R + R + (G + (B + B) + (G + (C + C)) + 1) + 1) := ((i7.same (Same.new ht2)).same e8).same e9
    have i9' : IsQ K H9 r9 (-2 * (x * y)) (2 + (B + C)) := by
      have h := i9
      simp only [show ((-2 : Int) : Rat) = -2 by rfl] at h
      exact h
    refine ⟨r7, r9, z * z - ((D : Rat) * (x * x) + (M : Rat) * (y * y)), -2 * (x * y), D * M, R + R + (G + (B + B) + (G + (C + C)) + 1) + 1, 2 + (B + C), G + G, rfl, i7', i9', mul_lt hD hM, by omega, by omega, by omega, by omega, fun H10 e10 => ?_⟩
    refine ⟨s1, _, rfl, rfl, cmul slz (S1_lt (sg_lt _)) (by decide) (by decide) (by decide), ?_⟩
    exact k H10 (s9.trans e10)
end
end K12

set_option maxHeartbeats 4000000
namespace K12
open PySem PySem.Spec PyProof.Rows L2
theorem iteB {c : Bool} {A B : Prop} (hc : c = true) (h : A) : if c = true then A else B := by
  rw [if_pos hc]
  exact h
theorem iteBF {c : Bool} {A B : Prop} (hc : c = false) (h : B) : if c = true then A else B := by
  rw [hc, if_neg Bool.false_ne_true]
  exact h
/-- a number of the program at p, its ints below 2 ^ B -/
def NumAt (K : PySem.W.Frag) (H : Hp) (p : Addr) (m : Num) (B : Nat) : Prop := match m with
  | .rat n d => ∃ p1, SqT K H p [.str "rational", .ref p1] ∧ SqT K H p1 [.int n, .int d] ∧ n.natAbs < 2 ^ B ∧ d.natAbs < 2 ^ B
  | .root c b a w => ∃ p1, SqT K H p [.str "root", .ref p1, .int w] ∧ SqT K H p1 [.int c, .int b, .int a] ∧ c.natAbs < 2 ^ B ∧ b.natAbs < 2 ^ B ∧ a.natAbs < 2 ^ B
theorem NumAt.same {K : PySem.W.Frag} {H H' : Hp} {p : Addr} {m : Num} {B : Nat} (h : NumAt K H p m B) (e : Same H H') : NumAt K H' p m B := by
  cases m with
  | rat n d =>
    obtain ⟨p1, h1, h2, h3⟩ := h
    exact ⟨p1, e.sqt h1, e.sqt h2, h3⟩
  | root c b a w =>
    obtain ⟨p1, h1, h2, h3⟩ := h
    exact ⟨p1, e.sqt h1, e.sqt h2, h3⟩
theorem disc_lt {c b a : Int} {B : Nat} (hc : c.natAbs < 2 ^ B) (hb : b.natAbs < 2 ^ B) (ha : a.natAbs < 2 ^ B) : (4 * a).natAbs < 2 ^ (3 + B) ∧ (b * b - 4 * a * c).natAbs < 2 ^ (2 * B + 4) := by
  have h1 : (4 * a).natAbs < 2 ^ (3 + B) := mul_lt (by decide) ha
  refine ⟨h1, lt_up (lt_sub (mul_lt hb hb) (mul_lt h1 hc)) (by omega)⟩
def spIsRat (K : PySem.W.Frag) : Sp := fun vs H Q _ => ∃ (p : Addr) (n d : Int), vs = [.ref p] ∧ SqT K H p [.int n, .int d] ∧ 0 < d ∧ Int.gcd n d = 1 ∧ Q (.bl true) H
def spIsRoot (K : PySem.W.Frag) : Sp := fun vs H Q _ => ∃ (p : Addr) (c b a w : Int) (B : Nat), vs = [.ref p] ∧ NumAt K H p (.root c b a w) B ∧ (Num.root c b a w).Valid ∧ 0 < B ∧ B ≤ 400 ∧ ∀ H', Same H H' → Q (.bl true) H'
def spIsNum (K : PySem.W.Frag) : Sp := fun vs H Q _ => ∃ x, vs = [x] ∧ ((x = .non ∧ Q (.bl false) H) ∨ ∃ (p : Addr) (m : Num) (B : Nat), x = .ref p ∧ NumAt K H p m B ∧ m.Valid ∧ 0 < B ∧ B ≤ 400 ∧ ∀ H', Same H H' → Q (.bl true) H')
section
variable {P : Program} {w : World} {K : PySem.W.Frag} {mg : Str → Option Value} {base : Heap} {A : Ad}
theorem good_is_rational (F : IsF K "is_rational" "is_rational" s_is_rational A.is_rational) (T : Txt K mg A) (Gi : Good P w K mg base CX0 1 A.is_integer ["x"] (spIsInt K)) : Good P w K mg base CX0 2 A.is_rational ["x"] (spIsRat K) := by
  obtain ⟨fd, F⟩ := F
  obtain ⟨f1, G_is_integer, b_is_integer⟩ := Gi
  refine ⟨fd, F.ok sc_is_rational (fun vs H Q E h => ?_) (fun cdv A' outer s H vs Q E hr h => ?_), F.binds fun _ _ _ _ _ _ us hl => match us, hl with | [_], _ => rfl⟩
  · obtain ⟨p, n, d, rfl, _⟩ := h; rfl
  · obtain ⟨p, n, d, rfl, hp, hd, hg, k⟩ := h
    refine ⟨_, (pss_cons (ps_if (PW.pt (pw_or (pt_not (pt_val (pe_callB call_isi (by rfl) T.n_isinstance (by decide +kernel) (pa_cons (pv 0) (pa_cons (pe_bltn (v := .ty "tuple") (by rfl) T.n_tuple (by decide +kernel) rfl) pa_nil))))) (pw_or1 (pt_cmpR op_ne (pe_callB call_len_seq (by rfl) T.n_len PySem.boot_len (pa_cons (pv 0) pa_nil)) pe_int (nomark _))))) (pss_one (ps_ret pe_bl)) pss_nil)
      (pss_cons (ps_asg (pv 0) (pg_tup (by rfl) (pgs_cons (pg_name (i := 1) sc_is_rational.nd rfl (Or.inl rfl)) (pgs_cons (pg_name (i := 2) sc_is_rational.nd rfl (Or.inl rfl)) pgs_nil))))
      (pss_one (ps_ret (pe_and (pe_call G_is_integer (hr.mono (by decide)) (by rfl) T.g_is_integer T.k_is_integer b_is_integer .nil pass0 (pa_cons (pv 1) pa_nil)) (pe_and (pe_call G_is_integer (hr.mono (by decide)) (by rfl) T.g_is_integer T.k_is_integer b_is_integer .nil pass0 (pa_cons (pv 2) pa_nil)) (pe_and (pe_cmpR op_gt (pv 2) pe_int (nomark _)) (pe_one (pe_cmpR op_eq (pe_callBfun cr_gcd (by rfl) T.g_gcd (pa_cons (pv 1) (pa_cons (pv 2) pa_nil))) pe_int (nomark _)))))))))), ?_⟩
    refine ⟨_, rfl, _, _, _, _, true, rfl, .ty _, tyT hp, kit_ty (by decide +kernel), _, rfl, iteF ⟨_, rfl, p, _, rfl, .inr hp, rfl, _, rfl, iteNS rfl ?_⟩⟩
    refine ⟨_, rfl, p, _, rfl, hp, rfl, _, _, rfl, _, _, rfl, rfl, ?_⟩
    refine ⟨_, rfl, _, rfl, .inl ⟨n, rfl, true, rfl, iteT ⟨_, rfl, _, rfl, .inl ⟨d, rfl, true, rfl, iteT ⟨_, rfl, _, _, rfl, rfl, _, rfl, iteB (decide_eq_true hd) ⟨_, rfl, _, rfl, n, d, rfl, rfl, ?_⟩⟩⟩⟩⟩⟩
    have e : decide (V.int (((n.natAbs.gcd d.natAbs : Nat) : Int)) = V.int 1) = true := decide_eq_true (by rw [show n.natAbs.gcd d.natAbs = 1 from hg]; rfl)
    show Q (.bl (decide (V.int (((n.natAbs.gcd d.natAbs : Nat) : Int)) = V.int 1))) H
    rw [e]; exact k
theorem good_is_root (F : IsF K "is_root" "is_root" s_is_root A.is_root) (T : Txt K mg A) (Gi : Good P w K mg base CX0 1 A.is_integer ["x"] (spIsInt K)) (Gq : Good P w K mg base CX0 1 A.is_square ["n"] spIsSq) : Good P w K mg base CX0 2 A.is_root ["x"] (spIsRoot K) := by
  obtain ⟨fd, F⟩ := F
  obtain ⟨f1, G_is_integer, b_is_integer⟩ := Gi
  obtain ⟨f2, G_is_square, b_is_square⟩ := Gq
  refine ⟨fd, F.ok sc_is_root (fun vs H Q E h => ?_) (fun cdv A' outer s H vs Q E hr h => ?_), F.binds fun _ _ _ _ _ _ us hl => match us, hl with | [_], _ => rfl⟩
  · obtain ⟨p, c, b, a, w, B, rfl, _⟩ := h; rfl
  · obtain ⟨p, c, b, a, w, B, rfl, ⟨p1, hp, hp1, lc, lb, la⟩, hv, hB, hB4, k⟩ := h
    refine ⟨_, (pss_cons (ps_if (PW.pt (pw_or (pt_cmpR op_ne (pe_callB call_len_seq (by rfl) T.n_len PySem.boot_len (pa_cons (pv 0) pa_nil)) pe_int (nomark _)) (pw_or (pt_not (pt_val (pe_callB call_isi (by rfl) T.n_isinstance (by decide +kernel) (pa_cons (pe_ix ix_tup (pv 0) pe_int (fun _ _ => rfl)) (pa_cons (pe_bltn (v := .ty "tuple") (by rfl) T.n_tuple (by decide +kernel) rfl) pa_nil))))) (pw_or (pt_cmpR op_ne (pe_callB call_len_seq (by rfl) T.n_len PySem.boot_len (pa_cons (pe_ix ix_tup (pv 0) pe_int (fun _ _ => rfl)) pa_nil)) pe_int (nomark _)) (pw_or1 (pt_not (pt_val (pe_callB (cr_all rfl) (by rfl) T.n_all (by decide +kernel) (pa_cons (pe_lc (own := [("one", 1)]) (by rfl) sc_is_root.nd (pi_tup (pe_ix ix_tup (pv 0) pe_int (fun _ _ => rfl))) (blkOk_by (own := [("one", 1)]) (N := N_is_root) (sc := defScope s_is_root) (by decide +kernel)) (fun _ _ _ _ _ => pg_name (i := 1) sc_is_root.nd rfl (Or.inl rfl)) (fun _ _ _ _ _ => pts_nil) (fun _ _ _ _ _ => (pe_call G_is_integer (hr.mono (by decide)) (by rfl) T.g_is_integer T.k_is_integer b_is_integer .nil pass0 (pa_cons (pv 1) pa_nil)))) pa_nil))))))))) (pss_one (ps_ret pe_bl)) pss_nil)
      (pss_cons (ps_if (PW.pt (pw_or (pt_not (pt_val (pe_call G_is_integer (hr.mono (by decide)) (by rfl) T.g_is_integer T.k_is_integer b_is_integer .nil pass0 (pa_cons (pe_ix ix_tup (pv 0) pe_int (fun _ _ => rfl)) pa_nil)))) (pw_or1 (pt_cmpR op_notIn_seq (pe_ix ix_tup (pv 0) pe_int (fun _ _ => rfl)) (pe_tup (pa_cons pe_int (pa_cons pe_int pa_nil))) (by rfl))))) (pss_one (ps_ret pe_bl)) pss_nil)
      (pss_cons (ps_asg (pe_ix ix_tup (pv 0) pe_int (fun _ _ => rfl)) (pg_tup (by rfl) (pgs_cons (pg_name (i := 2) sc_is_root.nd rfl (Or.inl rfl)) (pgs_cons (pg_name (i := 3) sc_is_root.nd rfl (Or.inl rfl)) (pgs_cons (pg_name (i := 4) sc_is_root.nd rfl (Or.inl rfl)) pgs_nil)))))
      (pss_cons (ps_set (i := 5) sc_is_root.nd rfl (Or.inl rfl) (pe_op op_sub (pe_op op_mulW (pv 3) (pv 3)) (pe_op op_mulW (pe_op op_mulW pe_int (pv 4)) (pv 2))))
      (pss_one (ps_ret (pe_and (pe_cmpR op_gt (pv 4) pe_int (nomark _)) (pe_and (pe_cmpR op_eq (pe_callBfun cr_gcd (by rfl) T.g_gcd (pa_cons (pe_callBfun cr_gcd (by rfl) T.g_gcd (pa_cons (pv 4) (pa_cons (pv 3) pa_nil))) (pa_cons (pv 2) pa_nil))) pe_int (nomark _)) (pe_and (pe_cmpR op_gt (pv 5) pe_int (nomark _)) (pe_one (pe_not (pe_call G_is_square (hr.mono (by decide)) (by rfl) T.g_is_square T.k_is_square b_is_square .nil pass0 (pa_cons (pv 5) pa_nil))))))))))))), ?_⟩
    obtain ⟨va, vg, vi, vs, vw⟩ := hv
    refine ⟨_, rfl, p, _, rfl, .inr hp, rfl, _, rfl, iteNS rfl ⟨_, rfl, p, _, _, _, rfl, rfl, hp, rfl, _, _, _, _, true, rfl, .ty _, tyT hp1, kit_ty (by decide +kernel), _, rfl, iteF
      ⟨_, rfl, p, _, _, _, rfl, rfl, hp, rfl, p1, _, rfl, .inr hp1, rfl, _, rfl, iteNS rfl ⟨_, rfl, p, _, _, _, rfl, rfl, hp, rfl, p1, rfl, ⟨_, hp1⟩, fun D hD => ?_⟩⟩⟩⟩
    refine lc_tup (K := K) (a := p1) (xs := [.int c, .int b, .int a]) (fun i H' => Same H H' ∧ H' D = some (.lst (List.replicate i (V.bl true)))) ⟨Same.new hD, upd_same⟩ (fun i H' _ q => q.1.sqt hp1) (fun i x H' hx q => ?_) (fun H' q => ?_)
    · obtain ⟨s5, hD'⟩ := q
      have hi : i < 3 := (List.getElem?_eq_some_iff.mp hx).1
      obtain ⟨j, rfl⟩ : ∃ j, x = V.int j := by
        match i, hx with
        | 0, hx => exact ⟨c, (Option.some.inj hx).symm⟩
        | 1, hx => exact ⟨b, (Option.some.inj hx).symm⟩
        | 2, hx => exact ⟨a, (Option.some.inj hx).symm⟩
      refine ⟨rfl, _, rfl, _, rfl, .inl ⟨j, rfl, _, hD', ?_, ?_, ?_⟩⟩
      · rw [List.length_replicate]; exact small1000 (by omega)
      · exact fun b o e => by rw [upd_ne (ne_of_none e hD)]; exact s5 b o e
      · rw [upd_same, List.replicate_succ']
    · obtain ⟨s5, hD'⟩ := q
      have hp' := s5.sqt hp
      have hp1' := s5.sqt hp1
      refine ⟨D, [true, true, true], rfl, SqL.of hD', _, rfl, iteF ?_⟩
      -- if not is_integer(x[2]) or x[2] not in (0, 1)
      refine ⟨_, rfl, p, _, _, _, rfl, rfl, hp', rfl, _, rfl, .inl ⟨w, rfl, true, rfl, iteF ⟨_, rfl, p, _, _, _, rfl, rfl, hp', rfl, two_le, fun t ht => ⟨t, _, rfl, .inr sqt_new, rfl, rfl, _, rfl, iteBF ?_ ?_⟩⟩⟩⟩
      · rcases vw with rfl | rfl <;> rfl
      · have hp2 := (Same.new (o := .tup [.int 0, .int 1]) ht).sqt hp'
        have hp3 := (Same.new (o := .tup [.int 0, .int 1]) ht).sqt hp1'
        obtain ⟨l4, li⟩ := disc_lt lc lb la
        refine ⟨_, rfl, p, _, _, _, rfl, rfl, hp2, rfl, p1, _, rfl, hp3, rfl, _, _, rfl, _, _, rfl, _, _, rfl, rfl, ?_⟩
        refine ⟨_, rfl, _, rfl, b, b, rfl, rfl, cmul lb lb hB hB (by omega), _, rfl, _, a, rfl, rfl, cmul (a := 3) (by decide) la (by decide) hB (by omega), _, rfl, _, c, rfl, rfl, cmul l4 lc (by omega) hB (by omega), _, _, rfl, rfl, ?_⟩
        refine ⟨_, rfl, _, _, rfl, rfl, _, rfl, iteB (decide_eq_true va) ⟨_, rfl, _, rfl, a, b, rfl, _, rfl, _, c, rfl, rfl, _, rfl, iteB ?_ ⟨_, rfl, _, _, rfl, rfl, _, rfl, iteB (decide_eq_true vi) ⟨_, rfl, b * b - 4 * a * c, rfl, by omega, lt_up li (by omega), fun _ => ⟨_, rfl, k _ (s5.trans (Same.new ht))⟩, fun z => absurd vs z⟩⟩⟩⟩
        exact decide_eq_true (by rw [Int.natAbs_natCast, vg]; rfl)
theorem good_is_number (F : IsF K "is_number" "is_number" s_is_number A.is_number) (T : Txt K mg A) (Gr : Good P w K mg base CX0 2 A.is_rational ["x"] (spIsRat K)) (Gt : Good P w K mg base CX0 2 A.is_root ["x"] (spIsRoot K)) : Good P w K mg base CX0 3 A.is_number ["x"] (spIsNum K) := by
  obtain ⟨fd, F⟩ := F
  obtain ⟨f1, G_is_rational, b_is_rational⟩ := Gr
  obtain ⟨f2, G_is_root, b_is_root⟩ := Gt
  refine ⟨fd, F.ok sc_is_number (fun vs H Q E h => ?_) (fun cdv A' outer s H vs Q E hr h => ?_), F.binds fun _ _ _ _ _ _ us hl => match us, hl with | [_], _ => rfl⟩
  · obtain ⟨x, rfl, _⟩ := h; rfl
  · obtain ⟨x, rfl, h⟩ := h
    refine ⟨_, (pss_cons (ps_if (PW.pt (pw_or (pt_not (pt_val (pe_callB call_isi (by rfl) T.n_isinstance (by decide +kernel) (pa_cons (pv 0) (pa_cons (pe_bltn (v := .ty "tuple") (by rfl) T.n_tuple (by decide +kernel) rfl) pa_nil))))) (pw_or (pt_cmpR op_lt (pe_callB call_len_seq (by rfl) T.n_len PySem.boot_len (pa_cons (pv 0) pa_nil)) pe_int (nomark _)) (pw_or1 (pt_not (pt_val (pe_callB call_isi (by rfl) T.n_isinstance (by decide +kernel) (pa_cons (pe_ix ix_tup (pv 0) pe_int (fun _ _ => rfl)) (pa_cons (pe_bltn (v := .ty "str") (by rfl) T.n_str (by decide +kernel) rfl) pa_nil))))))))) (pss_one (ps_ret pe_bl)) pss_nil)
      (pss_cons (ps_if (pt_cmpR op_eq (pe_ix ix_tup (pv 0) pe_int (fun _ _ => rfl)) pe_str (nomark _)) (pss_one (ps_ret (pe_and (pe_cmpR op_eq (pe_callB call_len_seq (by rfl) T.n_len PySem.boot_len (pa_cons (pv 0) pa_nil)) pe_int (nomark _)) (pe_one (pe_call G_is_rational (hr.mono (by decide)) (by rfl) T.g_is_rational T.k_is_rational b_is_rational .nil pass0 (pa_cons (pe_ix ix_tup (pv 0) pe_int (fun _ _ => rfl)) pa_nil)))))) pss_nil)
      (pss_one (ps_ret (pe_and (pe_cmpR op_eq (pe_ix ix_tup (pv 0) pe_int (fun _ _ => rfl)) pe_str (nomark _)) (pe_one (pe_call G_is_root (hr.mono (by decide)) (by rfl) T.g_is_root T.k_is_root b_is_root .nil pass0 (pa_cons (pv 0) pa_nil)))))))), ?_⟩
    rcases h with ⟨rfl, k⟩ | ⟨p, m, B, rfl, hm, hv, hB, hB4, k⟩
    · exact ⟨_, rfl, _, _, _, _, false, rfl, .ty _, .base .non, kit_ty (by decide +kernel), _, rfl, iteT (iteT k)⟩
    · cases m with
      | rat n d =>
        obtain ⟨p1, hp, hp1, ln, ld⟩ := hm
        refine ⟨_, rfl, _, _, _, _, true, rfl, .ty _, tyT hp, kit_ty (by decide +kernel), _, rfl, iteF ⟨_, rfl, p, _, rfl, .inr hp, _, _, rfl, rfl, _, rfl, iteF ⟨_, rfl, p, _, _, _, rfl, rfl, hp, rfl, _, _, _, _, true, rfl, .ty _, .base (.str _), kit_ty (by decide +kernel), _, rfl, iteF ?_⟩⟩⟩
        refine ⟨_, rfl, p, _, _, _, rfl, rfl, hp, rfl, rfl, _, rfl, iteB (by decide +kernel) ⟨_, rfl, p, _, rfl, .inr hp, rfl, _, rfl, iteT ⟨_, rfl, p, _, _, _, rfl, rfl, hp, rfl, p1, n, d, rfl, hp1, hv.1, hv.2, k H (Same.refl H)⟩⟩⟩
      | root c b a w =>
        obtain ⟨p1, hp, hp1, l⟩ := id hm
        refine ⟨_, rfl, _, _, _, _, true, rfl, .ty _, tyT hp, kit_ty (by decide +kernel), _, rfl, iteF ⟨_, rfl, p, _, rfl, .inr hp, _, _, rfl, rfl, _, rfl, iteF ⟨_, rfl, p, _, _, _, rfl, rfl, hp, rfl, _, _, _, _, true, rfl, .ty _, .base (.str _), kit_ty (by decide +kernel), _, rfl, iteF ?_⟩⟩⟩
        refine ⟨_, rfl, p, _, _, _, rfl, rfl, hp, rfl, rfl, _, rfl, iteBF (by decide +kernel) ⟨_, rfl, p, _, _, _, rfl, rfl, hp, rfl, rfl, _, rfl, iteB (by decide +kernel) ⟨_, rfl, p, c, b, a, w, B, rfl, hm, hv, hB, hB4, k⟩⟩⟩
end
end K12

set_option maxHeartbeats 4000000
namespace K12
open PySem PySem.Spec PyProof.Rows L2
def spInit (C : Addr) : Sp := fun vs H Q _ => ∃ (a : Addr) (v : V), vs = [.ref a, v] ∧ H a = some (exo a C none) ∧ ∀ d, H d = none → d ≠ a → Q .non (upd (upd H d (exd d [("name", v)])) a (exo a C (some d)))
/-- BadValue(nm) is raised -/
def Bad (C : Addr) (nm : Str) (H : Hp) (E : XK) : Prop := ∀ H' d, Same H H' → H' d = some (.xd [("name", .str nm)]) → E (.ref C) (some d) H'
theorem bad_heap {C : Addr} {nm : Str} {H : Hp} {E : XK} (k : Bad C nm H E) {a d : Addr} (ha : H a = none) (hd : (upd H a (exo a C none)) d = none) (hne : d ≠ a) :
    E (.ref C) (some d) (upd (del (upd (upd (upd H a (exo a C none)) d (exd d [("name", .str nm)])) a (exo a C (some d))) a) d (.xd [("name", .str nm)])) := by
  have hd0 : H d = none := by rw [upd_ne hne] at hd; exact hd
  refine k _ d (fun b o e => ?_) upd_same
  have h1 := ne_of_none e ha
  have h2 := ne_of_none e hd0
  rw [upd_ne h2, del_ne h1, upd_ne h1, upd_ne h2, upd_ne h1]
  exact e
def spCheck (K : PySem.W.Frag) (C : Addr) : Sp := fun vs H Q E => ∃ (x : V) (nm : Str), vs = [x, .str nm] ∧ ((x = .non ∧ Bad C nm H E) ∨ ∃ (p : Addr) (m : Num) (B : Nat), x = .ref p ∧ NumAt K H p m B ∧ m.Valid ∧ 0 < B ∧ B ≤ 400 ∧ ∀ H', Same H H' → Q .non H')
def spParts (K : PySem.W.Frag) : Sp := fun vs H Q _ => ∃ (p : Addr) (m : Num) (B : Nat), vs = [.ref p] ∧ NumAt K H p m B ∧ m.Valid ∧ 0 < B ∧ B ≤ 400 ∧
  ∀ H' r e px pu (D : Int) (u : Rat), Same H H' → SqT K H' r [.int D, .ref e] → SqT K H' e [.ref px, .ref pu] → IsQ K H' px m.X (B + 2) → IsQ K H' pu u (B + 2) → D.natAbs < 2 ^ (2 * B + 4) → sg (u * (D : Rat)) = m.S → (D : Rat) * (u * u) = m.P → Q (.ref r) H'
section
variable {P : Program} {w : World} {K : PySem.W.Frag} {mg : Str → Option Value} {base : Heap} {A : Ad}
theorem good_init (F : IsF K "__init__" "BadValue.__init__" s_init A.init) (T : Txt K mg A) : Good P w K mg base CX0 1 A.init ["self", "name"] (spInit A.BadValue) := by
  obtain ⟨fd, F⟩ := F
  refine ⟨fd, F.ok sc_init (fun vs H Q E h => ?_) (fun cdv A' outer s H vs Q E hr h => ?_), F.binds fun _ _ _ _ _ _ us hl => match us, hl with | [_, _], _ => rfl⟩
  · obtain ⟨a, v, rfl, _⟩ := h; rfl
  · obtain ⟨a, v, rfl, ha, k⟩ := h
    refine ⟨_, pss_one (ps_ost (pv 0) (pv 1)), ?_⟩
    exact ⟨_, rfl, _, rfl, a, A.BadValue, rfl, T.oex, T.nN, .inl ⟨ha, fun d hd hne => k d hd hne⟩⟩
theorem good_check_number (F : IsF K "check_number" "check_number" s_check_number A.check_number) (T : Txt K mg A) (Gn : Good P w K mg base CX0 3 A.is_number ["x"] (spIsNum K)) (Gi : Good P w K mg base CX0 1 A.init ["self", "name"] (spInit A.BadValue)) :
    Good P w K mg base (L2.CX P w) 4 A.check_number ["x", "name"] (spCheck K A.BadValue) := by
  obtain ⟨fd, F⟩ := F
  obtain ⟨f1, G_is_number, b_is_number⟩ := Gn
  obtain ⟨f2, G_init, b_init⟩ := Gi
  refine ⟨fd, F.okX sc_check_number (fun vs H Q E h => ?_) (fun cdv A' outer s H vs Q E hr h => ?_), F.binds fun _ _ _ _ _ _ us hl => match us, hl with | [_, _], _ => rfl⟩
  · obtain ⟨x, nm, rfl, _⟩ := h; rfl
  · obtain ⟨x, nm, rfl, h⟩ := h
    refine ⟨_, (pss_one (ps_if (pt_not (pt_val (pe_call G_is_number (hr.mono (by decide)) (by rfl) T.g_is_number T.k_is_number b_is_number .nil pass0 (pa_cons (pv 0) pa_nil)))) (pss_one (ps_raise rfl (takes_of rfl rfl rfl rfl) (pmk_oex T.oex T.iC T.tI G_init (hr.mono (by decide)) b_init .nil pass0 (by rfl) T.gC (pa_cons (pv 1) pa_nil)))) pss_nil)), ?_⟩
    rcases h with ⟨rfl, k⟩ | ⟨p, m, B, rfl, hm, hv, hB, hB4, k⟩
    · refine ⟨_, rfl, _, rfl, .inl ⟨rfl, _, rfl, iteT ⟨_, rfl, (show 1 ≤ 1000 by decide), fun a ha => ⟨a, _, rfl, upd_same, fun d hd hne => ⟨rfl, d, _, upd_same, ?_, ?_, bad_heap k ha hd hne⟩⟩⟩⟩⟩
      · rw [upd_ne hne, upd_same]
      · rw [upd_ne hne] at hd; exact hd
    · exact ⟨_, rfl, _, rfl, .inr ⟨p, m, B, rfl, hm, hv, hB, hB4, fun H' e => ⟨_, rfl, iteF (k H' e)⟩⟩⟩
theorem good_parts_of (F : IsF K "parts_of" "parts_of" s_parts_of A.parts_of) (T : Txt K mg A) (Gr : Good P w K mg base CX0 2 A.ratio ["n", "d"] (spRatio K)) : Good P w K mg base CX0 3 A.parts_of ["number"] (spParts K) := by
  obtain ⟨fd, F⟩ := F
  obtain ⟨f1, G_ratio, b_ratio⟩ := Gr
  refine ⟨fd, F.ok sc_parts_of (fun vs H Q E h => ?_) (fun cdv A' outer s H vs Q E hr h => ?_), F.binds fun _ _ _ _ _ _ us hl => match us, hl with | [_], _ => rfl⟩
  · obtain ⟨p, m, B, rfl, _⟩ := h; rfl
  · obtain ⟨p, m, B, rfl, hm, hv, hB, hB4, k⟩ := h
    refine ⟨_, (pss_cons (ps_if (pt_cmpR op_eq (pe_ix ix_tup (pv 0) pe_int (fun _ _ => rfl)) pe_str (nomark _)) (pss_one (ps_ret (pe_tup (pa_cons pe_int (pa_cons (pe_tup (pa_cons (pe_ix ix_tup (pv 0) pe_int (fun _ _ => rfl)) (pa_cons (pe_glob (v := .ref A.ZERO) (by rfl) T.g_ZERO rfl) pa_nil))) pa_nil))))) pss_nil)
      (pss_cons (ps_asg (pe_ix ix_tup (pv 0) pe_int (fun _ _ => rfl)) (pg_tup (by rfl) (pgs_cons (pg_name (i := 1) sc_parts_of.nd rfl (Or.inl rfl)) (pgs_cons (pg_name (i := 2) sc_parts_of.nd rfl (Or.inl rfl)) (pgs_cons (pg_name (i := 3) sc_parts_of.nd rfl (Or.inl rfl)) pgs_nil)))))
      (pss_one (ps_ret (pe_tup (pa_cons (pe_op op_sub (pe_op op_mulW (pv 2) (pv 2)) (pe_op op_mulW (pe_op op_mulW pe_int (pv 3)) (pv 1))) (pa_cons (pe_tup (pa_cons (pe_call G_ratio (hr.mono (by decide)) (by rfl) T.g_ratio T.k_ratio b_ratio .nil pass0 (pa_cons (pe_un un_neg (pv 2)) (pa_cons (pe_op op_mulW pe_int (pv 3)) pa_nil))) (pa_cons (pe_call G_ratio (hr.mono (by decide)) (by rfl) T.g_ratio T.k_ratio b_ratio .nil pass0 (pa_cons (pe_op op_sub (pe_op op_mulW pe_int (pe_ix ix_tup (pv 0) pe_int (fun _ _ => rfl))) pe_int) (pa_cons (pe_op op_mulW pe_int (pv 3)) pa_nil))) pa_nil))) pa_nil))))))), ?_⟩
    cases m with
    | rat n d =>
      obtain ⟨p1, hp, hp1, ln, ld⟩ := hm
      refine ⟨_, rfl, p, _, _, _, rfl, rfl, hp, rfl, rfl, _, rfl, iteB (by decide +kernel) ?_⟩
      refine ⟨_, rfl, p, _, _, _, rfl, rfl, hp, rfl, two_le, fun e he => ⟨two_le, fun r hr' => ?_⟩⟩
      have s1 : Same H (upd (upd H e (.tup [.ref p1, .ref A.ZERO])) r (.tup [.int 0, .ref e])) := (Same.new he).trans (Same.new hr')
      refine k _ r e p1 A.ZERO 0 0 s1 sqt_new ((Same.new hr').sqt sqt_new) ⟨n, d, s1.sqt hp1, hv.1, rfl, lt_up ln (by omega), lt_up ld (by omega)⟩ ⟨0, 1, .inr T.zero, by decide, by simp; grind, Nat.pow_pos (by decide), ?_⟩ (Nat.pow_pos (by decide)) ?_ ?_
      · have := pow_le (show 1 ≤ B + 2 by omega)
        omega
      · rw [show (0 : Rat) * ((0 : Int) : Rat) = 0 by grind]; exact sg_zero
      · show ((0 : Int) : Rat) * (0 * 0) = 0
        grind
    | root c b a w =>
      obtain ⟨p1, hp, hp1, lc, lb, la⟩ := hm
      obtain ⟨l4, li⟩ := disc_lt lc lb la
      have va := hv.1
      refine ⟨_, rfl, p, _, _, _, rfl, rfl, hp, rfl, rfl, _, rfl, iteBF (by decide +kernel) ?_⟩
      refine ⟨_, rfl, p, _, _, _, rfl, rfl, hp, rfl, p1, _, rfl, hp1, rfl, _, _, rfl, _, _, rfl, _, _, rfl, rfl, ?_⟩
      refine ⟨_, rfl, _, rfl, b, b, rfl, rfl, cmul lb lb hB hB (by omega), _, rfl, _, a, rfl, rfl, cmul (a := 3) (by decide) la (by decide) hB (by omega), _, rfl, _, c, rfl, rfl, cmul l4 lc (by omega) hB (by omega), _, _, rfl, rfl, ?_⟩
      have l2a : (2 * a).natAbs < 2 ^ (B + 2) := lt_up (mul_lt (a := 2) (by decide) la) (by omega)
      refine ⟨_, rfl, b, rfl, _, rfl, _, a, rfl, rfl, cmul (a := 2) (by decide) la (by decide) hB (by omega), -b, 2 * a, B + 2, rfl, by omega, ?_, l2a, by omega, by omega, fun H1 r1 e1 i1 => ?_⟩
      · rw [Int.natAbs_neg]; exact lt_up lb (by omega)
      · refine ⟨_, rfl, p, _, _, _, rfl, rfl, e1.sqt hp, rfl, _, w, rfl, rfl, ?_, _, _, rfl, rfl, _, rfl, _, a, rfl, rfl, cmul (a := 2) (by decide) la (by decide) hB (by omega), 2 * w - 1, 2 * a, B + 2, rfl, by omega, ?_, l2a, by omega, by omega, fun H2 r2 e2 i2 => ?_⟩
        · rcases hv.2.2.2.2 with rfl | rfl <;> exact cmul (a := 2) (b := 1) (by decide) (by decide) (by decide) (by decide) (by decide)
        · rcases hv.2.2.2.2 with rfl | rfl
          · exact lt_up (a := 2) (by decide) (by omega)
          · exact lt_up (a := 2) (by decide) (by omega)
        · refine ⟨two_le, fun e he => ⟨two_le, fun r hr' => ?_⟩⟩
          have s2 := (Same.new (o := .tup [.ref r1, .ref r2]) he).trans (Same.new (o := .tup [.int (b * b - 4 * a * c), .ref e]) hr')
          exact k _ r e r1 r2 (b * b - 4 * a * c) _ ((e1.trans e2).trans s2) sqt_new ((Same.new hr').sqt sqt_new) ((i1.same e2).same s2) (i2.same s2) li (part_S hv) (part_P hv)
end
end K12

set_option maxHeartbeats 4000000
namespace K12
open PySem PySem.Spec PyProof.Rows L2
def spNumSign (K : PySem.W.Frag) : Sp := fun vs H Q _ => ∃ (p : Addr) (m : Num) (B : Nat), vs = [.ref p] ∧ NumAt K H p m B ∧ m.Valid ∧ 0 < B ∧ B ≤ 400 ∧ ∀ H', Same H H' → Q (.int (beside m 0 1)) H'
def spCmp (K : PySem.W.Frag) : Sp := fun vs H Q _ => ∃ (p q : Addr) (m k : Num) (B : Nat), vs = [.ref p, .ref q] ∧ NumAt K H p m B ∧ m.Valid ∧ NumAt K H q k B ∧ k.Valid ∧ 0 < B ∧ B ≤ 200 ∧ ∀ H', Same H H' → Q (.int (cmp m k)) H'
def RootOf (m : Num) (q z : Int) : Prop := match m with | .rat _ _ => True | .root c b a _ => IsRoot z (q * q * (b * b - 4 * a * c))
/-- no q: an int below 1, or no int -/
def NoQ (K : PySem.W.Frag) (H : Hp) (y : V) : Prop := (∃ i : Int, y = .int i ∧ i < 1) ∨ y = .non ∨ (∃ b, y = .bl b) ∨ ∃ p xs, y = .ref p ∧ SqT K H p xs
def spFloor (K : PySem.W.Frag) (C : Addr) : Sp := fun vs H Q E => ∃ (x y : V), vs = [x, y] ∧ ((x = .non ∧ Bad C "number" H E) ∨ ∃ (p : Addr) (m : Num) (B : Nat), x = .ref p ∧ NumAt K H p m B ∧ m.Valid ∧ 0 < B ∧ B ≤ 400 ∧
  ((NoQ K H y ∧ Bad C "q" H E) ∨ ∃ q : Int, y = .int q ∧ 1 ≤ q ∧ q.natAbs < 2 ^ B ∧ ∀ H' z, Same H H' → RootOf m q z → Q (.int (m.flo q z)) H'))
section
variable {P : Program} {w : World} {K : PySem.W.Frag} {mg : Str → Option Value} {base : Heap} {A : Ad}
theorem good_number_sign (F : IsF K "number_sign" "number_sign" s_number_sign A.number_sign) (T : Txt K mg A) (Gc : Good P w K mg base (L2.CX P w) 4 A.check_number ["x", "name"] (spCheck K A.BadValue)) (Gp : Good P w K mg base CX0 3 A.parts_of ["number"] (spParts K))
    (Gq : Good P w K mg base CX0 3 A.square_sign ["x", "y", "inside"] (spSqS K)) : Good P w K mg base CX0 5 A.number_sign ["number"] (spNumSign K) := by
  obtain ⟨fd, F⟩ := F
  obtain ⟨f1, G_check_number, b_check_number⟩ := Gc
  obtain ⟨f2, G_parts_of, b_parts_of⟩ := Gp
  obtain ⟨f3, G_square_sign, b_square_sign⟩ := Gq
  refine ⟨fd, F.ok sc_number_sign (fun vs H Q E h => ?_) (fun cdv A' outer s H vs Q E hr h => ?_), F.binds fun _ _ _ _ _ _ us hl => match us, hl with | [_], _ => rfl⟩
  · obtain ⟨p, m, B, rfl, _⟩ := h; rfl
  · obtain ⟨p, m, B, rfl, hm, hv, hB, hB4, k⟩ := h
    refine ⟨_, (pss_cons (ps_expr (pe_call G_check_number (hr.mono (by decide)) (by rfl) T.g_check_number T.k_check_number b_check_number .nil passL (pa_cons (pv 0) (pa_cons pe_str pa_nil))))
      (pss_cons (ps_asg (pe_call G_parts_of (hr.mono (by decide)) (by rfl) T.g_parts_of T.k_parts_of b_parts_of .nil pass0 (pa_cons (pv 0) pa_nil)) (pg_tup (by rfl) (pgs_cons (pg_name (i := 1) sc_number_sign.nd rfl (Or.inl rfl)) (pgs_cons (pg_name (i := 2) sc_number_sign.nd rfl (Or.inl rfl)) pgs_nil))))
      (pss_one (ps_ret (pe_call G_square_sign (hr.mono (by decide)) (by rfl) T.g_square_sign T.k_square_sign b_square_sign .nil pass0 (pa_cons (pe_ix ix_tup (pv 2) pe_int (fun _ _ => rfl)) (pa_cons (pe_ix ix_tup (pv 2) pe_int (fun _ _ => rfl)) (pa_cons (pv 1) pa_nil)))))))), ?_⟩
    refine ⟨_, rfl, _, _, rfl, .inr ⟨p, m, B, rfl, hm, hv, hB, hB4, fun H1 e1 => ?_⟩⟩
    refine ⟨_, rfl, p, m, B, rfl, hm.same e1, hv, hB, hB4, fun H2 r e px pu D u e2 hr2 he2 ix iu lD hS hP => ?_⟩
    refine ⟨r, _, rfl, hr2, rfl, _, _, rfl, _, _, rfl, rfl, ?_⟩
    refine ⟨_, rfl, e, _, _, _, rfl, rfl, he2, rfl, _, rfl, e, _, _, _, rfl, rfl, he2, rfl, _, rfl, px, pu, m.X, u, D, B + 2, B + 2, 2 * B + 4, rfl, ix, iu, lD, by omega, by omega, by omega, by omega, fun H3 e3 => ?_⟩
    rw [hS, hP, num_sign hv]
    exact k H3 ((e1.trans e2).trans e3)
theorem IsQ.neg {K : PySem.W.Frag} {H : Hp} {p : Addr} {x : Rat} {B : Nat} (h : IsQ K H p x B) : ∃ n d : Int, SqT K H p [.int n, .int d] ∧ ∀ r, H r = none → IsQ K (upd H r (.tup [.int (-n), .int d])) r (-x) B := by
  obtain ⟨n, d, h1, h2, rfl, h4, h5⟩ := h
  refine ⟨n, d, h1, fun r hr => ⟨-n, d, sqt_new, h2, ?_, by rw [Int.natAbs_neg]; exact h4, h5⟩⟩
  rw [Rat.intCast_neg, Rat.div_def, Rat.div_def]; grind
theorem good_compare_numbers (F : IsF K "compare_numbers" "compare_numbers" s_compare_numbers A.compare_numbers) (T : Txt K mg A) (Gc : Good P w K mg base (L2.CX P w) 4 A.check_number ["x", "name"] (spCheck K A.BadValue)) (Gp : Good P w K mg base CX0 3 A.parts_of ["number"] (spParts K))
    (Gm : Good P w K mg base CX0 2 A.minus ["a", "b"] (spMinus K)) (Gt : Good P w K mg base CX0 4 A.total_sign ["r", "u", "d", "v", "e"] (spTot K)) : Good P w K mg base CX0 5 A.compare_numbers ["first", "second"] (spCmp K) := by
  obtain ⟨fd, F⟩ := F
  obtain ⟨f1, G_check_number, b_check_number⟩ := Gc
  obtain ⟨f2, G_parts_of, b_parts_of⟩ := Gp
  obtain ⟨f3, G_minus, b_minus⟩ := Gm
  obtain ⟨f4, G_total_sign, b_total_sign⟩ := Gt
  refine ⟨fd, F.ok sc_compare_numbers (fun vs H Q E h => ?_) (fun cdv A' outer s H vs Q E hr h => ?_), F.binds fun _ _ _ _ _ _ us hl => match us, hl with | [_, _], _ => rfl⟩
  · obtain ⟨p, q, m, k, B, rfl, _⟩ := h; rfl
  · obtain ⟨p, q, m, n, B, rfl, hm, hv, hn, hw, hB, hB4, k⟩ := h
    refine ⟨_, (pss_cons (ps_expr (pe_call G_check_number (hr.mono (by decide)) (by rfl) T.g_check_number T.k_check_number b_check_number .nil passL (pa_cons (pv 0) (pa_cons pe_str pa_nil))))
      (pss_cons (ps_expr (pe_call G_check_number (hr.mono (by decide)) (by rfl) T.g_check_number T.k_check_number b_check_number .nil passL (pa_cons (pv 1) (pa_cons pe_str pa_nil))))
      (pss_cons (ps_asg (pe_call G_parts_of (hr.mono (by decide)) (by rfl) T.g_parts_of T.k_parts_of b_parts_of .nil pass0 (pa_cons (pv 0) pa_nil)) (pg_tup (by rfl) (pgs_cons (pg_name (i := 2) sc_compare_numbers.nd rfl (Or.inl rfl)) (pgs_cons (pg_tup (by rfl) (pgs_cons (pg_name (i := 3) sc_compare_numbers.nd rfl (Or.inl rfl)) (pgs_cons (pg_name (i := 4) sc_compare_numbers.nd rfl (Or.inl rfl)) pgs_nil))) pgs_nil))))
      (pss_cons (ps_asg (pe_call G_parts_of (hr.mono (by decide)) (by rfl) T.g_parts_of T.k_parts_of b_parts_of .nil pass0 (pa_cons (pv 1) pa_nil)) (pg_tup (by rfl) (pgs_cons (pg_name (i := 5) sc_compare_numbers.nd rfl (Or.inl rfl)) (pgs_cons (pg_tup (by rfl) (pgs_cons (pg_name (i := 6) sc_compare_numbers.nd rfl (Or.inl rfl)) (pgs_cons (pg_name (i := 7) sc_compare_numbers.nd rfl (Or.inl rfl)) pgs_nil))) pgs_nil))))
      (pss_one (ps_ret (pe_call G_total_sign (hr.mono (by decide)) (by rfl) T.g_total_sign T.k_total_sign b_total_sign .nil pass0 (pa_cons (pe_call G_minus (hr.mono (by decide)) (by rfl) T.g_minus T.k_minus b_minus .nil pass0 (pa_cons (pv 3) (pa_cons (pv 6) pa_nil))) (pa_cons (pv 4) (pa_cons (pv 2) (pa_cons (pe_tup (pa_cons (pe_un un_neg (pe_ix ix_tup (pv 7) pe_int (fun _ _ => rfl))) (pa_cons (pe_ix ix_tup (pv 7) pe_int (fun _ _ => rfl)) pa_nil))) (pa_cons (pv 5) pa_nil)))))))))))), ?_⟩
    refine ⟨_, rfl, _, _, rfl, .inr ⟨p, m, B, rfl, hm, hv, hB, by omega, fun H1 e1 => ?_⟩⟩
    refine ⟨_, rfl, _, _, rfl, .inr ⟨q, n, B, rfl, hn.same e1, hw, hB, by omega, fun H2 e2 => ?_⟩⟩
    have s02 := e1.trans e2
    refine ⟨_, rfl, p, m, B, rfl, hm.same s02, hv, hB, by omega, fun H3 r e px pu D u e3 hr3 he3 ix iu lD hS hP => ?_⟩
    refine ⟨r, _, rfl, hr3, rfl, _, _, rfl, _, _, rfl, ⟨e, _, rfl, he3, rfl, _, _, rfl, _, _, rfl, rfl, rfl, ?_⟩⟩
    refine ⟨_, rfl, q, n, B, rfl, hn.same (s02.trans e3), hw, hB, by omega, fun H4 r' e' py pv M v e4 hr4 he4 iy iv lM hS' hP' => ?_⟩
    refine ⟨r', _, rfl, hr4, rfl, _, _, rfl, _, _, rfl, ⟨e', _, rfl, he4, rfl, _, _, rfl, _, _, rfl, rfl, rfl, ?_⟩⟩
    refine ⟨_, rfl, _, rfl, px, py, m.X, n.X, B + 2, B + 2, rfl, ix.same e4, iy, by omega, by omega, by omega, fun H5 r5 e5 i5 => ?_⟩
    obtain ⟨vn, vd, hv5, ng⟩ := (iv.same e5).neg
    refine ⟨_, rfl, _, rfl, _, rfl, pv, _, _, _, rfl, rfl, hv5, rfl, _, rfl, _, rfl, pv, _, _, _, rfl, rfl, hv5, rfl, two_le, fun t ht => ?_⟩
    refine ⟨_, rfl, r5, pu, t, m.X - n.X, u, -v, D, M, B + 2 + (B + 2) + 1, B + 2, B + 2, 2 * B + 4, rfl, i5.same (Same.new ht), ((iu.same e4).same e5).same (Same.new ht), ng t ht, lD, lM, by omega, by omega, by omega, by omega, by omega, fun H6 e6 => ?_⟩
    have e1' : sg (-v * (M : Rat)) = -n.S := by rw [show -v * (M : Rat) = -(v * (M : Rat)) by grind, sg_neg_eq, hS']
    have e2' : (M : Rat) * (-v * -v) = n.P := by rw [← hP']; grind
    rw [hS, hP, e1', e2']
    exact k H6 (((((s02.trans e3).trans e4).trans e5).trans (Same.new ht)).trans e6)
end
end K12

set_option maxHeartbeats 4000000
namespace K12
open PySem PySem.Spec PyProof.Rows L2
section
variable {P : Program} {w : World} {K : PySem.W.Frag} {mg : Str → Option Value} {base : Heap} {A : Ad}
theorem good_floor_of (F : IsF K "floor_of" "floor_of" s_floor_of A.floor_of) (T : Txt K mg A) (Gc : Good P w K mg base (L2.CX P w) 4 A.check_number ["x", "name"] (spCheck K A.BadValue)) (Gi : Good P w K mg base CX0 1 A.is_integer ["x"] (spIsInt K))
    (Gn : Good P w K mg base CX0 1 A.init ["self", "name"] (spInit A.BadValue)) : Good P w K mg base (L2.CX P w) 5 A.floor_of ["number", "q"] (spFloor K A.BadValue) := by
  obtain ⟨fd, F⟩ := F
  obtain ⟨f1, G_check_number, b_check_number⟩ := Gc
  obtain ⟨f2, G_is_integer, b_is_integer⟩ := Gi
  obtain ⟨f3, G_init, b_init⟩ := Gn
  refine ⟨fd, F.okX sc_floor_of (fun vs H Q E h => ?_) (fun cdv A' outer s H vs Q E hr h => ?_), F.binds fun _ _ _ _ _ _ us hl => match us, hl with | [_, _], _ => rfl⟩
  · obtain ⟨x, y, rfl, _⟩ := h; rfl
  · obtain ⟨x, y, rfl, h⟩ := h
    refine ⟨_, (pss_cons (ps_expr (pe_call G_check_number (hr.mono (by decide)) (by rfl) T.g_check_number T.k_check_number b_check_number .nil (passes_call (E := E) (W := fun cls d _ H => E cls d H) (takes_of rfl rfl rfl rfl) (fun _ _ _ _ h => h)) (pa_cons (pv 0) (pa_cons pe_str pa_nil))))
      (pss_cons (ps_if (PW.pt (pw_or (pt_not (pt_val (pe_call G_is_integer (hr.mono (by decide)) (by rfl) T.g_is_integer T.k_is_integer b_is_integer .nil pass0 (pa_cons (pv 1) pa_nil)))) (pw_or1 (pt_cmpR op_lt (pv 1) pe_int (nomark _))))) (pss_one (ps_raise rfl (takes_of rfl rfl rfl rfl) (pmk_oex T.oex T.iC T.tI G_init (hr.mono (by decide)) b_init .nil pass0 (by rfl) T.gC (pa_cons pe_str pa_nil)))) pss_nil)
      (pss_cons (ps_if (pt_cmpR op_eq (pe_ix ix_tup (pv 0) pe_int (fun _ _ => rfl)) pe_str (nomark _)) (pss_one (ps_ret (pe_op op_fdivW (pe_op op_mulW (pe_ix ix_tup (pe_ix ix_tup (pv 0) pe_int (fun _ _ => rfl)) pe_int (fun _ _ => rfl)) (pv 1)) (pe_ix ix_tup (pe_ix ix_tup (pv 0) pe_int (fun _ _ => rfl)) pe_int (fun _ _ => rfl))))) pss_nil)
      (pss_cons (ps_asg (pe_ix ix_tup (pv 0) pe_int (fun _ _ => rfl)) (pg_tup (by rfl) (pgs_cons (pg_name (i := 2) sc_floor_of.nd rfl (Or.inl rfl)) (pgs_cons (pg_name (i := 3) sc_floor_of.nd rfl (Or.inl rfl)) (pgs_cons (pg_name (i := 4) sc_floor_of.nd rfl (Or.inl rfl)) pgs_nil)))))
      (pss_cons (ps_set (i := 5) sc_floor_of.nd rfl (Or.inl rfl) (pe_callBfun cr_isqrt (by rfl) T.g_isqrt (pa_cons (pe_op op_mulW (pe_op op_mulW (pe_op op_sub (pe_op op_mulW (pv 3) (pv 3)) (pe_op op_mulW (pe_op op_mulW pe_int (pv 4)) (pv 2))) (pv 1)) (pv 1)) pa_nil)))
      (pss_cons (ps_if (pt_cmpR op_eq (pe_ix ix_tup (pv 0) pe_int (fun _ _ => rfl)) pe_int (nomark _)) (pss_one (ps_ret (pe_op op_fdivW (pe_op op_sub (pv 5) (pe_op op_mulW (pv 3) (pv 1))) (pe_op op_mulW pe_int (pv 4))))) pss_nil)
      (pss_one (ps_ret (pe_op op_fdivW (pe_op op_sub (pe_op op_sub (pe_un un_neg (pv 5)) pe_int) (pe_op op_mulW (pv 3) (pv 1))) (pe_op op_mulW pe_int (pv 4))))))))))), ?_⟩
    rcases h with ⟨rfl, k⟩ | ⟨p, m, B, rfl, hm, hv, hB, hB4, h⟩
    · exact ⟨_, rfl, _, _, rfl, .inl ⟨rfl, k⟩⟩
    · refine ⟨_, rfl, _, _, rfl, .inr ⟨p, m, B, rfl, hm, hv, hB, hB4, fun H1 e1 => ?_⟩⟩
      rcases h with ⟨hq, k⟩ | ⟨q, rfl, hq1, hqB, k⟩
      · -- no q
        have fin : ∀ (a : Addr), H1 a = none → spInit A.BadValue (V.ref a :: ([V.str "q"] ++ [])) (upd H1 a (exo a A.BadValue none)) (fun v H2 => v = .non ∧ ∃ (d : Addr) (fs : List (Str × V)), H2 a = some (exo a A.BadValue (some d)) ∧ H2 d = some (exd d fs) ∧ H1 d = none ∧ E (.ref A.BadValue) (some d) (upd (del H2 a) d (.xd fs))) (fun _ _ _ => False) := fun a ha =>
          ⟨a, _, rfl, upd_same, fun d hd hne => ⟨rfl, d, _, upd_same, by rw [upd_ne hne, upd_same], by rw [upd_ne hne] at hd; exact hd, bad_heap (fun H' d e h => k H' d (e1.trans e) h) ha hd hne⟩⟩
        rcases hq with ⟨i, rfl, hi⟩ | rfl | ⟨b, rfl⟩ | ⟨p2, xs, rfl, hp2⟩
        · exact ⟨_, rfl, _, rfl, .inl ⟨i, rfl, _, rfl, iteF ⟨_, rfl, _, _, rfl, rfl, _, rfl, iteB (decide_eq_true hi) ⟨show 1 ≤ 1000 by decide, fin⟩⟩⟩⟩
        · exact ⟨_, rfl, _, rfl, .inr ⟨.inl rfl, _, rfl, iteT (iteT ⟨show 1 ≤ 1000 by decide, fin⟩)⟩⟩
        · exact ⟨_, rfl, _, rfl, .inr ⟨.inr (.inl ⟨b, rfl⟩), _, rfl, iteT (iteT ⟨show 1 ≤ 1000 by decide, fin⟩)⟩⟩
        · exact ⟨_, rfl, _, rfl, .inr ⟨.inr (.inr (.inr ⟨p2, xs, rfl, e1.sqt hp2⟩)), _, rfl, iteT (iteT ⟨show 1 ≤ 1000 by decide, fin⟩)⟩⟩
      · refine ⟨_, rfl, _, rfl, .inl ⟨q, rfl, _, rfl, iteF ⟨_, rfl, _, _, rfl, rfl, _, rfl, iteBF (decide_eq_false (by omega)) ?_⟩⟩⟩
        have hm1 := hm.same e1
        cases m with
        | rat n d =>
          obtain ⟨p1, hp, hp1, ln, ld⟩ := hm1
          refine ⟨_, rfl, p, _, _, _, rfl, rfl, hp, rfl, rfl, _, rfl, iteB (by decide +kernel) ?_⟩
          exact ⟨_, rfl, p, _, _, _, rfl, rfl, hp, rfl, p1, _, _, _, rfl, rfl, hp1, rfl, _, rfl, n, q, rfl, rfl, cmul ln hqB hB hB (by omega), _, rfl, p, _, _, _, rfl, rfl, hp, rfl, p1, _, _, _, rfl, rfl, hp1, rfl, n * q, d, rfl, rfl, wide_div hv.1 ld hB (by omega), k H1 0 e1 True.intro⟩
        | root c b a w =>
          obtain ⟨p1, hp, hp1, lc, lb, la⟩ := hm1
          obtain ⟨l4, li⟩ := disc_lt lc lb la
          have va := hv.1
          have vi := hv.2.2.1
          have l2a : (2 * a).natAbs < 2 ^ (B + 2) := lt_up (mul_lt (a := 2) (by decide) la) (by omega)
          have lbq := mul_lt lb hqB
          have l1 := mul_lt li hqB
          have l2 := mul_lt l1 hqB
          refine ⟨_, rfl, p, _, _, _, rfl, rfl, hp, rfl, rfl, _, rfl, iteBF (by decide +kernel) ?_⟩
          refine ⟨_, rfl, p, _, _, _, rfl, rfl, hp, rfl, p1, _, rfl, hp1, rfl, _, _, rfl, _, _, rfl, _, _, rfl, rfl, ?_⟩
          refine ⟨_, rfl, _, rfl, b, b, rfl, rfl, cmul lb lb hB hB (by omega), _, rfl, _, a, rfl, rfl, cmul (a := 3) (by decide) la (by decide) hB (by omega), _, rfl, _, c, rfl, rfl, cmul l4 lc (by omega) hB (by omega), _, _, rfl, rfl,
            _, rfl, _, q, rfl, rfl, cmul li hqB (by omega) hB (by omega), _, rfl, _, q, rfl, rfl, cmul l1 hqB (by omega) hB (by omega), (b * b - 4 * a * c) * q * q, rfl, ?_, lt_up l2 (show 2 * B + 4 + B + B ≤ 9000 by omega), fun z hz => ?_⟩
          · exact Int.mul_nonneg (Int.mul_nonneg (by omega) (by omega)) (by omega)
          · have hz' : IsRoot z (q * q * (b * b - 4 * a * c)) := by
              rw [show q * q * (b * b - 4 * a * c) = (b * b - 4 * a * c) * q * q by grind]
              exact hz
            have kk := k H1 z e1 hz'
            refine ⟨_, rfl, p, _, _, _, rfl, rfl, hp, rfl, rfl, _, rfl, ite2 (fun h => ?_) (fun h => ?_)⟩
            · have hw : w = 1 := dI_t h
              have ef : (Num.root c b a w).flo q z = (z - b * q) / (2 * a) := if_pos hw
              rw [ef] at kk
              exact ⟨_, rfl, _, rfl, _, rfl, b, q, rfl, rfl, cmul lb hqB hB hB (by omega), _, _, rfl, rfl, _, rfl, _, a, rfl, rfl, cmul (a := 2) (by decide) la (by decide) hB (by omega), _, _, rfl, rfl, wide_div (by omega) l2a (by omega) (by omega), kk⟩
            · have hw : w ≠ 1 := dI_f h
              have ef : (Num.root c b a w).flo q z = (-z - 1 - b * q) / (2 * a) := if_neg hw
              rw [ef] at kk
              exact ⟨_, rfl, _, rfl, _, _, rfl, rfl, _, rfl, _, rfl, b, q, rfl, rfl, cmul lb hqB hB hB (by omega), _, _, rfl, rfl, _, rfl, _, a, rfl, rfl, cmul (a := 2) (by decide) la (by decide) hB (by omega), _, _, rfl, rfl, wide_div (by omega) l2a (by omega) (by omega), kk⟩
end
end K12

set_option maxHeartbeats 4000000
namespace K12
open PySem PySem.Spec PyProof.Rows L2
/-- all but what stands at p is as it was -/
def SameB (p : Addr) (H H' : Hp) : Prop := ∀ b o, b ≠ p → H b = some o → H' b = some o
theorem SameB.refl (p : Addr) (H : Hp) : SameB p H H := fun _ _ _ e => e
theorem SameB.trans {p : Addr} {H H1 H2 : Hp} (a : SameB p H H1) (b : SameB p H1 H2) : SameB p H H2 := fun c o n e => b c o n (a c o n e)
theorem _root_.L2.Same.sb {H H' : Hp} (p : Addr) (h : Same H H') : SameB p H H' := fun b o _ e => h b o e
theorem SameB.upd {p : Addr} {H : Hp} {o : HO} : SameB p H (upd H p o) := fun b u n e => by rw [upd_ne n]; exact e
/-- the law's stream at p -/
def Stm (H : Hp) (p : Addr) : Prop := ∃ (l : Addr) (ns : List Int) (cell k : Int), H p = some (.lst [.ref l, .int cell, .int k]) ∧ H l = some (.lst (ns.map V.int)) ∧ l ≠ p ∧ 0 ≤ cell ∧ 0 ≤ k
theorem Stm.same {H H' : Hp} {p : Addr} (h : Stm H p) (e : Same H H') : Stm H' p := by
  obtain ⟨l, ns, cell, k, h1, h2, h3⟩ := h
  exact ⟨l, ns, cell, k, e _ _ h1, e _ _ h2, h3⟩
/-- a tuple is not at p -/
theorem sb_sqt {K : PySem.W.Frag} {H H' : Hp} {p a : Addr} {xs : List V} (e : SameB p H H') (hp : Stm H p) (h : SqT K H a xs) : SqT K H' a xs := by
  obtain ⟨l, ns, cell, k, h1, _⟩ := hp
  rcases h with (h | ⟨o, h⟩) | h
  · exact .inl (.inl (e _ _ (fun z => by rw [z, h1] at h; cases h) h))
  · exact .inl (.inr ⟨o, e _ _ (fun z => by rw [z, h1] at h; cases h) h⟩)
  · exact .inr h
theorem sb_num {K : PySem.W.Frag} {H H' : Hp} {p a : Addr} {m : Num} {B : Nat} (e : SameB p H H') (hp : Stm H p) (h : NumAt K H a m B) : NumAt K H' a m B := by
  cases m with
  | rat n d =>
    obtain ⟨p1, h1, h2, h3⟩ := h
    exact ⟨p1, sb_sqt e hp h1, sb_sqt e hp h2, h3⟩
  | root c b a w =>
    obtain ⟨p1, h1, h2, h3⟩ := h
    exact ⟨p1, sb_sqt e hp h1, sb_sqt e hp h2, h3⟩
def spStream (K : PySem.W.Frag) : Sp := fun vs H Q _ => ∃ (a : Addr) (ns : List Int), vs = [.ref a] ∧ SqL K H a (ns.map V.int) ∧ ∀ H' p, Same H H' → Stm H' p → Q (.ref p) H'
def spNext : Sp := fun vs H Q _ => ∃ (p : Addr) (many : Int), vs = [.ref p, .int many] ∧ Stm H p ∧ 0 < many ∧ many.natAbs < 2 ^ 8000 ∧ ∀ H' d, SameB p H H' → Stm H' p → 0 ≤ d → d < many → Q (.int d) H'
def spLInt : Sp := fun vs H Q _ => ∃ i : Int, vs = [.int i] ∧ Q (.bl true) H
section
variable {P : Program} {w : World} {K : PySem.W.Frag} {mg : Str → Option Value} {base : Heap} {A : Ad}
theorem good_law_stream (F : IsF K "_law_stream" "_law_stream" s_law_stream A.law_stream) (T : Txt K mg A) : Good P w K mg base CX0 1 A.law_stream ["_law_script"] (spStream K) := by
  obtain ⟨fd, F⟩ := F
  refine ⟨fd, F.ok sc_law_stream (fun vs H Q E h => ?_) (fun cdv A' outer s H vs Q E hr h => ?_), F.binds fun _ _ _ _ _ _ us hl => match us, hl with | [_], _ => rfl⟩
  · obtain ⟨a, ns, rfl, _⟩ := h; rfl
  · obtain ⟨a, ns, rfl, hS, k⟩ := h
    refine ⟨_, (pss_one (ps_ret (pe_lst (pa_cons (pe_callTy call_list_of (by rfl) T.n_list (by decide +kernel) (pa_cons (pv 0) pa_nil)) (pa_cons pe_int (pa_cons pe_int pa_nil)))))), ?_⟩
    refine ⟨_, rfl, a, _, rfl, .inl hS, fun l hl => ⟨three_le, fun p hp => k _ p ((Same.new hl).trans (Same.new hp)) ?_⟩⟩
    have hlp : l ≠ p := fun z => by rw [← z, upd_same] at hp; cases hp
    exact ⟨l, ns, 0, 0, upd_same, by rw [upd_ne hlp, upd_same], hlp, by decide, by decide⟩
theorem good_law_next (F : IsF K "_law_next" "_law_next" s_law_next A.law_next) (T : Txt K mg A) : Good P w K mg base CX0 1 A.law_next ["_law_stream_here", "_law_many"] spNext := by
  obtain ⟨fd, F⟩ := F
  refine ⟨fd, F.ok sc_law_next (fun vs H Q E h => ?_) (fun cdv A' outer s H vs Q E hr h => ?_), F.binds fun _ _ _ _ _ _ us hl => match us, hl with | [_, _], _ => rfl⟩
  · obtain ⟨p, many, rfl, _⟩ := h; rfl
  · obtain ⟨p, many, rfl, ⟨l, ns, cell, k, hp, hl, hlp, hc, hk⟩, h0, hB, kk⟩ := h
    refine ⟨_, (C8.pss_cut (ps_if (pt_cmpR op_eq (pe_ix ix_list (pv 0) pe_int (fun _ _ => rfl)) pe_int (nomark _)) (pss_cons (ps_set (i := 2) sc_law_next.nd rfl (Or.inl rfl) (pe_ix ix_list (pv 0) pe_int (fun _ _ => rfl)))
      (pss_cons (ps_set (i := 3) sc_law_next.nd rfl (Or.inl rfl) (pe_op op_add pe_int (pv 2)))
      (C8.pss_cut (ps_if (pt_cmpR op_lt (pv 2) (pe_callB call_len_seq (by rfl) T.n_len PySem.boot_len (pa_cons (pe_ix ix_list (pv 0) pe_int (fun _ _ => rfl)) pa_nil)) (nomark _)) (pss_one (ps_set (i := 3) sc_law_next.nd rfl (Or.inl rfl) (pe_callB call_abs (by rfl) T.n_abs (by decide +kernel) (pa_cons (pe_ix ix_list (pe_ix ix_list (pv 0) pe_int (fun _ _ => rfl)) (pv 2) (fun _ _ => rfl)) pa_nil)))) pss_nil)
      (C8.pss_cut (ps_if (pt_cmpR op_lt (pv 3) (pe_op op_pow pe_int pe_int) (nomark _)) (pss_cons (ps_set (i := 3) sc_law_next.nd rfl (Or.inl rfl) (pe_op op_mod (pe_callTy call_int1 (by rfl) T.n_int (by decide +kernel) (pa_cons (pe_op op_add (pe_op op_add (pe_op op_mul (pv 3) pe_int) (pe_op op_mul (pv 2) pe_int)) pe_int) pa_nil)) pe_int))
      (pss_one (ps_set (i := 3) sc_law_next.nd rfl (Or.inl rfl) (pe_op op_add (pe_op op_mul (pe_op op_mod (pe_callTy call_int1 (by rfl) T.n_int (by decide +kernel) (pa_cons (pe_op op_add (pe_op op_mul (pv 3) pe_int) pe_int) pa_nil)) pe_int) pe_int) (pv 3))))) pss_nil)
      (pss_cons (ps_asg (pv 3) (pg_sub (pv 0) pe_int set_list))
      (pss_one (ps_asg (pe_op op_add (pv 2) pe_int) (pg_sub (pv 0) pe_int set_list)))))))) pss_nil)
      (pss_cons (ps_set (i := 4) sc_law_next.nd rfl (Or.inl rfl) (pe_op op_mod (pe_callTy call_int1 (by rfl) T.n_int (by decide +kernel) (pa_cons (pe_ix ix_list (pv 0) pe_int (fun _ _ => rfl)) pa_nil)) (pv 1)))
      (pss_cons (ps_asg (pe_op op_fdivW (pe_ix ix_list (pv 0) pe_int (fun _ _ => rfl)) (pv 1)) (pg_sub (pv 0) pe_int set_list))
      (pss_one (ps_ret (pv 4)))))), ?_⟩
    refine ⟨fun σ' H' => ∃ (cell' k' : Int) (a b : Option V), σ' = [some (.ref p), some (.int many), a, b, none] ∧ SameB p H H' ∧ H' p = some (.lst [.ref l, .int cell', .int k']) ∧ 0 ≤ cell' ∧ 0 ≤ k', ?_, ?_⟩
    · refine ⟨_, rfl, p, _, _, _, rfl, rfl, SqL.of hp, rfl, rfl, _, rfl, ite2 (fun _ => ?_) (fun _ => ⟨cell, k, _, _, rfl, SameB.refl p H, hp, hc, hk⟩)⟩
      -- k = s[2]; cell = 7 + k
      refine ⟨_, rfl, p, _, _, _, rfl, rfl, SqL.of hp, rfl, _, rfl, _, _, rfl, rfl, ?_⟩
      refine ⟨fun σ' H' => H' = H ∧ ∃ c : Int, 0 ≤ c ∧ σ' = [some (.ref p), some (.int many), some (.int k), some (.int c), none], ?_, ?_⟩
      · refine ⟨_, rfl, _, rfl, p, _, _, _, rfl, rfl, SqL.of hp, rfl, l, _, rfl, .inl (SqL.of hl), _, _, rfl, rfl, _, rfl, ite2 (fun h => ?_) (fun _ => ⟨rfl, 7 + k, by omega, rfl⟩)⟩
        have hlt : k < ((ns.map V.int).length : Int) := of_decide_eq_true h
        rw [List.length_map] at hlt
        obtain ⟨j, rfl⟩ : ∃ j : Nat, k = (j : Int) := ⟨k.toNat, by omega⟩
        have hj : j < ns.length := by omega
        have hat : atI (ns.map V.int) (j : Int) = some (V.int ns[j]) := atI_nat (by rw [List.getElem?_map, List.getElem?_eq_getElem hj]; rfl)
        refine ⟨_, rfl, p, _, _, _, rfl, rfl, SqL.of hp, rfl, _, rfl, l, _, _, _, rfl, rfl, SqL.of hl, hat, _, rfl, rfl, _, ?_, rfl⟩
        split <;> omega
      · rintro σ' H' ⟨rfl, c, hc0, rfl⟩
        refine ⟨fun σ' H'' => H'' = H' ∧ ∃ c : Int, 0 ≤ c ∧ σ' = [some (.ref p), some (.int many), some (.int k), some (.int c), none], ?_, ?_⟩
        · refine ⟨_, rfl, _, _, rfl, rfl, ⟨by decide, by decide, by decide⟩, _, _, rfl, rfl, _, rfl, ite2 (fun _ => ?_) (fun _ => ⟨rfl, c, hc0, rfl⟩)⟩
          refine ⟨_, rfl, _, _, rfl, rfl, .inr ⟨by decide, by decide⟩, _, rfl, _, _, rfl, rfl, .inr ⟨by decide, by decide⟩, _, _, rfl, rfl, _, _, rfl, rfl, .inl ⟨_, rfl, _, _, rfl, rfl, (by show (0 : Int) < 2147483647; decide), ?_⟩⟩
          refine ⟨_, rfl, _, _, rfl, rfl, .inr ⟨by decide, by decide⟩, _, _, rfl, rfl, .inl ⟨_, rfl, _, _, rfl, rfl, (by show (0 : Int) < 2147483647; decide), _, _, rfl, rfl, .inr ⟨by decide, by decide⟩, _, rfl, _, _, rfl, rfl, rfl, _, ?_, rfl⟩⟩
          have a1 := Int.emod_nonneg (c * 48271 + k * 69621 + 11) (show (2147483647 : Int) ≠ 0 by decide)
          have a2 := Int.emod_nonneg ((c * 48271 + k * 69621 + 11) % 2147483647 * 16807 + 13) (show (2147483647 : Int) ≠ 0 by decide)
          omega
        · rintro σ' H'' ⟨rfl, c, hc0, rfl⟩
          -- s[1] = cell; s[2] = k + 1
          refine ⟨_, rfl, _, rfl, p, _, _, _, rfl, rfl, hp, rfl, ?_⟩
          refine ⟨_, rfl, _, _, rfl, rfl, _, rfl, p, _, _, _, rfl, rfl, upd_same, rfl, ?_⟩
          refine ⟨c, k + 1, _, _, rfl, SameB.upd.trans SameB.upd, upd_same, hc0, by omega⟩
    · rintro σ' H1 ⟨cell', k', a, b, rfl, sb, hp1, hc1, hk1⟩
      have l8 := Nat.pow_le_pow_right (n := 2) (by decide) (show 8000 ≤ 9000 by decide)
      refine ⟨_, rfl, p, _, _, _, rfl, rfl, SqL.of hp1, rfl, .inl ⟨_, rfl, _, rfl, _, _, rfl, rfl, h0, ?_⟩⟩
      refine ⟨_, rfl, p, _, _, _, rfl, rfl, SqL.of hp1, rfl, _, rfl, _, _, rfl, rfl, wide_div h0 hB (by decide) (by decide), _, rfl, p, _, _, _, rfl, rfl, hp1, rfl, ?_⟩
      refine ⟨_, rfl, kk _ _ (sb.trans SameB.upd) ⟨l, ns, cell' / many, k', upd_same, ?_, hlp, ?_, hk1⟩ (Int.emod_nonneg _ (by omega)) (Int.emod_lt_of_pos _ h0)⟩
      · rw [upd_ne hlp]; exact sb _ _ hlp hl
      · exact Int.ediv_nonneg hc1 (by omega)
theorem good_law_is_integer (F : IsF K "_law_is_integer" "_law_is_integer" s_law_is_integer A.law_is_integer) (T : Txt K mg A) : Good P w K mg base CX0 1 A.law_is_integer ["_law_actual"] spLInt := by
  obtain ⟨fd, F⟩ := F
  refine ⟨fd, F.ok sc_law_is_integer (fun vs H Q E h => ?_) (fun cdv A' outer s H vs Q E hr h => ?_), F.binds fun _ _ _ _ _ _ us hl => match us, hl with | [_], _ => rfl⟩
  · obtain ⟨i, rfl, _⟩ := h; rfl
  · obtain ⟨i, rfl, q⟩ := h
    refine ⟨_, (pss_one (ps_ret (pe_and (pe_callB call_isi (by rfl) T.n_isinstance (by decide +kernel) (pa_cons (pv 0) (pa_cons (pe_bltn (v := .ty "int") (by rfl) T.n_int (by decide +kernel) rfl) pa_nil))) (pe_one (pe_not (pe_callB call_isi (by rfl) T.n_isinstance (by decide +kernel) (pa_cons (pv 0) (pa_cons (pe_bltn (v := .ty "bool") (by rfl) T.n_bool (by decide +kernel) rfl) pa_nil)))))))), ?_⟩
    exact ⟨_, rfl, _, _, _, _, true, rfl, .ty _, .base (.int i), kit_ty (by decide +kernel), _, rfl, iteT ⟨_, rfl, _, _, _, _, false, rfl, .ty _, .base (.int i), kit_ty (by decide +kernel), _, rfl, q⟩⟩
end
end K12

set_option maxHeartbeats 4000000
namespace K12
open PySem PySem.Spec PyProof.Rows L2
def spLGcd : Sp := fun vs H Q _ => ∃ a b : Int, vs = [.int a, .int b] ∧ a.natAbs < 2 ^ 8000 ∧ b.natAbs < 2 ^ 8000 ∧ Q (.int (gc a b)) H
def spLLow (K : PySem.W.Frag) : Sp := fun vs H Q _ => ∃ (n d : Int) (B : Nat), vs = [.int n, .int d] ∧ 0 < d ∧ n.natAbs < 2 ^ B ∧ d.natAbs < 2 ^ B ∧ 0 < B ∧ B ≤ 8000 ∧
  ∀ H' p, Same H H' → SqT K H' p [.int (n / gc n d), .int (d / gc n d)] → Q (.ref p) H'
theorem gc_low {n d : Int} (h : 0 < d) : 0 < d / gc n d ∧ Int.gcd (n / gc n d) (d / gc n d) = 1 ∧ gc n d * (n / gc n d) = n ∧ gc n d * (d / gc n d) = d ∧ 0 < gc n d := by
  have g0 := gc_pos (a := n) (b := d) (by omega)
  have e1 := Int.mul_ediv_cancel' (gc_l n d)
  have e2 := Int.mul_ediv_cancel' (gc_r n d)
  refine ⟨?_, ?_, e1, e2, g0⟩
  · refine Int.pos_of_mul_pos_right (a := gc n d) ?_ (by omega)
    rw [e2]; exact h
  · have hp := low_parts (n := n.natAbs) (d := d.natAbs) (by omega)
    have a1 : (n / gc n d).natAbs = n.natAbs / Nat.gcd n.natAbs d.natAbs := Int.natAbs_ediv_of_dvd (gc_l n d)
    have a2 : (d / gc n d).natAbs = d.natAbs / Nat.gcd n.natAbs d.natAbs := Int.natAbs_ediv_of_dvd (gc_r n d)
    show Nat.gcd (n / gc n d).natAbs (d / gc n d).natAbs = 1
    rw [a1, a2]
    exact hp
def spLRatio (K : PySem.W.Frag) : Sp := fun vs H Q _ => ∃ p : Addr, vs = [.ref p, .int 60, .int 40] ∧ Stm H p ∧ ∀ H' r n d, SameB p H H' → Stm H' p → SqT K H' r [.int n, .int d] → 0 < d → Int.gcd n d = 1 → n.natAbs < 2 ^ 40 → d.natAbs < 2 ^ 40 → Q (.ref r) H'
def spLEqual : Sp := fun vs H Q _ => ∃ i j : Int, vs = [.int i, .int j] ∧ Q (.bl (decide (i = j))) H
section
variable {P : Program} {w : World} {K : PySem.W.Frag} {mg : Str → Option Value} {base : Heap} {A : Ad}
theorem good_law_gcd (F : IsF K "_law_gcd" "_law_gcd" s_law_gcd A.law_gcd) (T : Txt K mg A) : Good P w K mg base CX0 1 A.law_gcd ["_law_a", "_law_b"] spLGcd := by
  obtain ⟨fd, F⟩ := F
  refine ⟨fd, F.ok sc_law_gcd (fun vs H Q E h => ?_) (fun cdv A' outer s H vs Q E hr h => ?_), F.binds fun _ _ _ _ _ _ us hl => match us, hl with | [_, _], _ => rfl⟩
  · obtain ⟨a, b, rfl, _⟩ := h; rfl
  · obtain ⟨a, b, rfl, ha, hb, k⟩ := h
    refine ⟨_, (pss_cons (ps_set (i := 0) sc_law_gcd.nd rfl (Or.inl rfl) (pe_callB call_abs (by rfl) T.n_abs (by decide +kernel) (pa_cons (pv 0) pa_nil)))
      (pss_cons (ps_set (i := 1) sc_law_gcd.nd rfl (Or.inl rfl) (pe_callB call_abs (by rfl) T.n_abs (by decide +kernel) (pa_cons (pv 1) pa_nil)))
      (pss_cons (ps_for PassesOwn.never rfl (pi_range1 (by rfl) T.n_range (pa_cons pe_int pa_nil)) (pg_name (i := 2) sc_law_gcd.nd rfl (Or.inl rfl)) (pss_cons (ps_if (pt_cmpR op_eq (pv 1) pe_int (nomark _)) (pss_one ps_break) pss_nil)
      (pss_one (ps_par (i := 0) (j := 1) (by rfl) sc_law_gcd.nd rfl rfl (by decide) rfl rfl (pa_cons (pv 1) (pa_cons (pe_op op_mod (pe_callTy call_int1 (by rfl) T.n_int (by decide +kernel) (pa_cons (pv 0) pa_nil)) (pv 1)) pa_nil)) (by rfl)))))
      (pss_one (ps_ret (pv 0)))))), ?_⟩
    have ab : ∀ i : Int, (if i < 0 then -i else i) = ((i.natAbs : Nat) : Int) := fun i => by split <;> omega
    refine ⟨_, rfl, a, rfl, _, rfl, b, rfl, ?_⟩
    rw [ab a, ab b]
    refine ⟨40000, rfl, by decide, by decide, for_range (lo := 0) (n := 40000) (fun i σ H' => H' = H ∧ ∃ (x y : Nat) (kk : Option V), σ = [some (.int (x : Int)), some (.int (y : Int)), kk] ∧ GInv (Nat.gcd a.natAbs b.natAbs) i x y) ?_ ?_ ?_⟩
    · exact ⟨rfl, a.natAbs, b.natAbs, none, rfl, ginv0 ha hb (by decide)⟩
    · rintro i σ H' hi ⟨rfl, x, y, kk, rfl, hI⟩
      refine ⟨_, rfl, rfl, _, rfl, ite2 (fun h => ?_) (fun h => ?_)⟩
      · have hy : y = 0 := by have := dI_t h; omega
        subst hy
        have hx := ginv_zero hI
        exact ⟨_, rfl, by rw [hx]; exact k⟩
      · have hy : y ≠ 0 := fun z => dI_f h (by rw [z]; rfl)
        refine ⟨_, rfl, _, rfl, .inl ⟨_, rfl, _, rfl, _, _, rfl, rfl, (by show (0 : Int) < (y : Int); omega), _, _, rfl, ?_⟩⟩
        refine ⟨rfl, y, x % y, some (.int (0 + (i : Int))), ?_, ginv_step hI hy⟩
        rw [Int.natCast_emod]
        rfl
    · rintro σ H' ⟨rfl, x, y, kk, rfl, hI⟩
      have hx := ginv_end hI
      exact ⟨_, rfl, by rw [hx]; exact k⟩
theorem good_law_low (F : IsF K "_law_low" "_law_low" s_law_low A.law_low) (T : Txt K mg A) (Gg : Good P w K mg base CX0 1 A.law_gcd ["_law_a", "_law_b"] spLGcd) : Good P w K mg base CX0 2 A.law_low ["_law_n", "_law_d"] (spLLow K) := by
  obtain ⟨fd, F⟩ := F
  obtain ⟨f1, G_law_gcd, b_law_gcd⟩ := Gg
  refine ⟨fd, F.ok sc_law_low (fun vs H Q E h => ?_) (fun cdv A' outer s H vs Q E hr h => ?_), F.binds fun _ _ _ _ _ _ us hl => match us, hl with | [_, _], _ => rfl⟩
  · obtain ⟨n, d, B, rfl, _⟩ := h; rfl
  · obtain ⟨n, d, B, rfl, hd, hn, hdB, hB, hB8, k⟩ := h
    refine ⟨_, (pss_cons (ps_set (i := 2) sc_law_low.nd rfl (Or.inl rfl) (pe_call G_law_gcd (hr.mono (by decide)) (by rfl) T.g_law_gcd T.k_law_gcd b_law_gcd .nil pass0 (pa_cons (pv 0) (pa_cons (pv 1) pa_nil))))
      (pss_cons (ps_if (pt_cmpR op_lt (pv 1) pe_int (nomark _)) (pss_one (ps_set (i := 2) sc_law_low.nd rfl (Or.inl rfl) (pe_op op_sub pe_int (pv 2)))) pss_nil)
      (pss_one (ps_ret (pe_tup (pa_cons (pe_op op_fdivW (pv 0) (pv 2)) (pa_cons (pe_op op_fdivW (pv 1) (pv 2)) pa_nil))))))), ?_⟩
    have g0 := gc_pos (a := n) (b := d) (by omega)
    have gB : (gc n d).natAbs < 2 ^ B := by have := gc_le (a := n) hd; omega
    refine ⟨_, rfl, _, rfl, n, d, rfl, lt_up hn hB8, lt_up hdB hB8, ?_⟩
    refine ⟨_, rfl, _, _, rfl, rfl, _, rfl, iteBF (decide_eq_false (by omega)) ?_⟩
    exact ⟨_, rfl, _, rfl, n, _, rfl, rfl, wide_div g0 gB hB (by omega), _, rfl, _, rfl, d, _, rfl, rfl, wide_div g0 gB hB (by omega), two_le, fun p hp => k _ p (Same.new hp) sqt_new⟩
theorem good_law_ratio (F : IsF K "_law_ratio" "_law_ratio" s_law_ratio A.law_ratio) (T : Txt K mg A) (Gn : Good P w K mg base CX0 1 A.law_next ["_law_stream_here", "_law_many"] spNext) (Gl : Good P w K mg base CX0 2 A.law_low ["_law_n", "_law_d"] (spLLow K)) :
    Good P w K mg base CX0 3 A.law_ratio ["_law_stream_here", "_law_top", "_law_most"] (spLRatio K) := by
  obtain ⟨fd, F⟩ := F
  obtain ⟨f1, G_law_next, b_law_next⟩ := Gn
  obtain ⟨f2, G_law_low, b_law_low⟩ := Gl
  refine ⟨fd, F.ok sc_law_ratio (fun vs H Q E h => ?_) (fun cdv A' outer s H vs Q E hr h => ?_), F.binds fun _ _ _ _ _ _ us hl => match us, hl with | [_, _, _], _ => rfl⟩
  · obtain ⟨p, rfl, _⟩ := h; rfl
  · obtain ⟨p, rfl, hp, k⟩ := h
    refine ⟨_, (pss_cons (ps_set (i := 3) sc_law_ratio.nd rfl (Or.inl rfl) (pe_op op_sub (pe_call G_law_next (hr.mono (by decide)) (by rfl) T.g_law_next T.k_law_next b_law_next .nil pass0 (pa_cons (pv 0) (pa_cons (pe_op op_add (pe_op op_mulW pe_int (pv 1)) pe_int) pa_nil))) (pv 1)))
      (pss_one (ps_ret (pe_call G_law_low (hr.mono (by decide)) (by rfl) T.g_law_low T.k_law_low b_law_low .nil pass0 (pa_cons (pv 3) (pa_cons (pe_op op_add pe_int (pe_call G_law_next (hr.mono (by decide)) (by rfl) T.g_law_next T.k_law_next b_law_next .nil pass0 (pa_cons (pv 0) (pa_cons (pv 2) pa_nil)))) pa_nil)))))), ?_⟩
    refine ⟨_, rfl, _, rfl, _, _, rfl, rfl, cmul (i := 2) (j := 60) (a := 2) (b := 6) (by decide) (by decide) (by decide) (by decide) (by decide), _, _, rfl, rfl, p, 2 * 60 + 1, rfl, hp, by decide, lt_up (a := 7) (by decide) (by decide), fun H1 n s1 p1 n0 n1 => ?_⟩
    refine ⟨_, rfl, _, _, rfl, rfl, _, rfl, _, rfl, _, rfl, p, 40, rfl, p1, by decide, lt_up (a := 6) (by decide) (by decide), fun H2 d s2 p2 d0 d1 => ?_⟩
    have hn : (n - 60).natAbs < 2 ^ 8 := by omega
    have hd : (1 + d).natAbs < 2 ^ 8 := by omega
    refine ⟨_, _, rfl, rfl, n - 60, 1 + d, 8, rfl, by omega, hn, hd, by decide, by decide, fun H3 r s3 h3 => ?_⟩
    obtain ⟨q1, q2, _, _, q5⟩ := gc_low (n := n - 60) (d := 1 + d) (by omega)
    exact k H3 r _ _ ((s1.trans s2).trans (s3.sb p)) (p2.same s3) h3 q1 q2 (lt_up (div_lt q5 hn) (by decide)) (lt_up (div_lt q5 hd) (by decide))
theorem good_law_equal (F : IsF K "_law_equal" "_law_equal" s_law_equal A.law_equal) (T : Txt K mg A) (Gi : Good P w K mg base CX0 1 A.law_is_integer ["_law_actual"] spLInt) : Good P w K mg base CX0 2 A.law_equal ["_law_actual", "_law_due"] spLEqual := by
  obtain ⟨fd, F⟩ := F
  obtain ⟨f1, G_law_is_integer, b_law_is_integer⟩ := Gi
  refine ⟨fd, F.ok sc_law_equal (fun vs H Q E h => ?_) (fun cdv A' outer s H vs Q E hr h => ?_), F.binds fun _ _ _ _ _ _ us hl => match us, hl with | [_, _], _ => rfl⟩
  · obtain ⟨i, j, rfl, _⟩ := h; rfl
  · obtain ⟨i, j, rfl, k⟩ := h
    refine ⟨_, (pss_cons (ps_if (pt_cmpR op_isN (pv 1) pe_non (nomark _)) (pss_one (ps_ret (pe_cmpR op_isN (pv 0) pe_non (nomark _)))) pss_nil)
      (pss_cons (ps_if (pt_val (pe_callB call_isi (by rfl) T.n_isinstance (by decide +kernel) (pa_cons (pv 1) (pa_cons (pe_bltn (v := .ty "bool") (by rfl) T.n_bool (by decide +kernel) rfl) pa_nil)))) (pss_one (ps_ret (pe_and (pe_callB call_isi (by rfl) T.n_isinstance (by decide +kernel) (pa_cons (pv 0) (pa_cons (pe_bltn (v := .ty "bool") (by rfl) T.n_bool (by decide +kernel) rfl) pa_nil))) (pe_one (pe_cmpR op_eq (pv 0) (pv 1) (nomark _)))))) pss_nil)
      (pss_cons (ps_if (pt_val (pe_callB call_isi (by rfl) T.n_isinstance (by decide +kernel) (pa_cons (pv 1) (pa_cons (pe_bltn (v := .ty "int") (by rfl) T.n_int (by decide +kernel) rfl) pa_nil)))) (pss_one (ps_ret (pe_and (pe_call G_law_is_integer (hr.mono (by decide)) (by rfl) T.g_law_is_integer T.k_law_is_integer b_law_is_integer .nil pass0 (pa_cons (pv 0) pa_nil)) (pe_one (pe_cmpR op_eq (pv 0) (pv 1) (nomark _)))))) pss_nil)
      pss_never))), ?_⟩
    refine ⟨_, rfl, rfl, _, rfl, iteF ⟨_, rfl, _, _, _, _, false, rfl, .ty _, .base (.int j), kit_ty (by decide +kernel), _, rfl, iteF ⟨_, rfl, _, _, _, _, true, rfl, .ty _, .base (.int j), kit_ty (by decide +kernel), _, rfl, iteT ?_⟩⟩⟩
    refine ⟨_, rfl, i, rfl, true, rfl, iteT ⟨_, rfl, _, rfl, rfl, ?_⟩⟩
    have e : decide (V.int i = V.int j) = decide (i = j) := by
      by_cases h : i = j
      · rw [h, decide_eq_true rfl, decide_eq_true rfl]
      · rw [decide_eq_false h, decide_eq_false (fun z => h (by cases z; rfl))]
    show Q (.bl (decide (V.int i = V.int j))) H
    rw [e]; exact k
end
end K12

set_option maxHeartbeats 4000000
namespace K12
open PySem PySem.Spec PyProof.Rows L2
def spLRoot : Sp := fun vs H Q _ => ∃ n : Int, vs = [.int n] ∧ 0 ≤ n ∧ n < 2 ^ 2000 ∧ ∀ r, IsRoot r n → Q (.int r) H
def spLIsSq : Sp := fun vs H Q _ => ∃ n : Int, vs = [.int n] ∧ 0 ≤ n ∧ n < 2 ^ 2000 ∧ (NotSq n → Q (.bl false) H) ∧ (¬ NotSq n → Q (.bl true) H)
def spBeside (K : PySem.W.Frag) : Sp := fun vs H Q _ => ∃ (p : Addr) (m : Num) (n d : Int) (B : Nat), vs = [.ref p, .int n, .int d] ∧ NumAt K H p m B ∧ n.natAbs < 2 ^ B ∧ d.natAbs < 2 ^ B ∧ 0 < B ∧ B ≤ 400 ∧ Q (.int (beside m n d)) H
/-- the law's try around floor_of -/
def spTold (K : PySem.W.Frag) : Sp := fun vs H Q _ => ∃ (x y : V), vs = [x, y] ∧ ((x = .non ∧ ∀ H', Same H H' → Q (.str "number") H') ∨ ∃ (p : Addr) (m : Num) (B : Nat), x = .ref p ∧ NumAt K H p m B ∧ m.Valid ∧ 0 < B ∧ B ≤ 400 ∧
  ((NoQ K H y ∧ ∀ H', Same H H' → Q (.str "q") H') ∨ ∃ q : Int, y = .int q ∧ 1 ≤ q ∧ q.natAbs < 2 ^ B ∧ ∀ H' z, Same H H' → RootOf m q z → Q (.int (m.flo q z)) H'))
theorem root_eq {n r t : Int} (h : IsRoot r n) (k : IsRoot t n) : r = t := by
  obtain ⟨r0, r1, r2⟩ := h
  obtain ⟨t0, t1, t2⟩ := k
  have a1 : r ≤ t := Int.not_lt.mp fun q => by have := isq (show 0 ≤ t + 1 by omega) (show t + 1 ≤ r by omega); omega
  have a2 : t ≤ r := Int.not_lt.mp fun q => by have := isq (show 0 ≤ r + 1 by omega) (show r + 1 ≤ t by omega); omega
  omega
theorem root_lt {n r : Int} (h : IsRoot r n) (hn : n < 2 ^ 2000) : r.natAbs < 2 ^ 2000 := by
  obtain ⟨r0, r1, r2⟩ := h
  have h1 : r ≤ r * r := by
    by_cases hr : r = 0
    · rw [hr]; decide
    · have := Int.mul_le_mul_of_nonneg_left (show 1 ≤ r by omega) r0
      omega
  have h2 : ((2 ^ 2000 : Nat) : Int) = (2 : Int) ^ 2000 := Int.natCast_pow 2 2000
  generalize (2 : Int) ^ 2000 = u at *
  generalize (2 : Nat) ^ 2000 = v at *
  omega
section
variable {P : Program} {w : World} {K : PySem.W.Frag} {mg : Str → Option Value} {base : Heap} {A : Ad}
theorem good_law_root (F : IsF K "_law_root" "_law_root" s_law_root A.law_root) (T : Txt K mg A) : Good P w K mg base CX0 1 A.law_root ["_law_n"] spLRoot := by
  obtain ⟨fd, F⟩ := F
  refine ⟨fd, F.ok sc_law_root (fun vs H Q E h => ?_) (fun cdv A' outer s H vs Q E hr h => ?_), F.binds fun _ _ _ _ _ _ us hl => match us, hl with | [_], _ => rfl⟩
  · obtain ⟨n, rfl, _⟩ := h; rfl
  · obtain ⟨n, rfl, n0, nB, k⟩ := h
    refine ⟨_, (pss_cons (ps_set (i := 1) sc_law_root.nd rfl (Or.inl rfl) pe_int)
      (pss_cons (ps_set (i := 2) sc_law_root.nd rfl (Or.inl rfl) pe_int)
      (pss_cons (ps_for PassesOwn.never rfl (pi_range1 (by rfl) T.n_range (pa_cons pe_int pa_nil)) (pg_name (i := 3) sc_law_root.nd rfl (Or.inl rfl)) (pss_cons (ps_if (pt_cmpR op_gt (pe_op op_mulW (pv 2) (pv 2)) (pv 0) (nomark _)) (pss_one ps_break) pss_nil)
      (pss_one (ps_set (i := 2) sc_law_root.nd rfl (Or.inl rfl) (pe_op op_mulW (pv 2) pe_int)))))
      (pss_cons (ps_for PassesOwn.never rfl (pi_range1 (by rfl) T.n_range (pa_cons pe_int pa_nil)) (pg_name (i := 3) sc_law_root.nd rfl (Or.inl rfl)) (pss_cons (ps_if (pt_cmpR op_lt (pe_op op_sub (pv 2) (pv 1)) pe_int (nomark _)) (pss_one ps_break) pss_nil)
      (pss_cons (ps_set (i := 4) sc_law_root.nd rfl (Or.inl rfl) (pe_op op_fdivW (pe_op op_add (pv 1) (pv 2)) pe_int))
      (pss_one (ps_if (pt_cmpR op_gt (pe_op op_mulW (pv 4) (pv 4)) (pv 0) (nomark _)) (pss_one (ps_set (i := 2) sc_law_root.nd rfl (Or.inl rfl) (pv 4))) (pss_one (ps_set (i := 1) sc_law_root.nd rfl (Or.inl rfl) (pv 4))))))))
      (pss_one (ps_ret (pv 1))))))), ?_⟩
    -- the second loop, from any end of the first
    refine ⟨4000, rfl, by decide, by decide, for_range (lo := 0) (n := 4000) (fun i σ H' => H' = H ∧ ∃ (hi : Int) (kk : Option V), σ = [some (.int n), some (.int 0), some (.int hi), kk, none] ∧ RInv1 n i hi) ?_ ?_ ?_⟩
    · exact ⟨rfl, 1, none, rfl, rfl, .inl rfl⟩
    · rintro i σ H' hi4 ⟨rfl, hi, kk, rfl, hI⟩
      have hl : hi.natAbs < 2 ^ 4000 := by rw [hI.1]; exact ipow_lt hi4
      refine ⟨_, rfl, _, rfl, hi, hi, rfl, rfl, cmul hl hl (by decide) (by decide) (by decide), _, rfl, _, _, rfl, rfl, _, rfl, ite2 (fun h => ?_) (fun h => ?_)⟩
      · have hb : n < hi * hi := of_decide_eq_true h
        have hI2 := rinv2_0 n0 hI hb (by omega)
        refine ⟨4000, rfl, by decide, by decide, for_range (lo := 0) (n := 4000) (fun i σ H'' => H'' = H' ∧ ∃ (lo hi : Int) (kk mm : Option V), σ = [some (.int n), some (.int lo), some (.int hi), kk, mm] ∧ RInv2 n i lo hi) ?_ ?_ ?_⟩
        · exact ⟨rfl, 0, hi, _, none, rfl, hI2⟩
        · rintro i2 σ2 H2 hi42 ⟨rfl, lo2, hi2, kk2, mm2, rfl, hJ⟩
          refine ⟨_, rfl, _, rfl, _, _, rfl, rfl, _, _, rfl, rfl, _, rfl, ite2 (fun h2 => ?_) (fun h2 => ?_)⟩
          · have hb2 : hi2 - lo2 < 2 := of_decide_eq_true h2
            exact ⟨_, rfl, k _ (rinv2_brk hJ hb2)⟩
          · have hb2 : ¬ hi2 - lo2 < 2 := fun z => h2 (decide_eq_true z)
            have hml : ((lo2 + hi2) / 2).natAbs < 2 ^ 4002 := by
              have q1 := rinv2_hi_lt hJ nB
              have q2 := hJ.1
              have q3 := hJ.2.1
              generalize (2 : Nat) ^ 4002 = u at *
              omega
            refine ⟨_, rfl, _, rfl, _, _, rfl, rfl, _, _, rfl, rfl, wide_div (b := 2) (by decide) (by decide) (by decide) (by decide), ?_⟩
            refine ⟨_, rfl, _, rfl, _, _, rfl, rfl, cmul hml hml (by decide) (by decide) (by decide), _, rfl, _, _, rfl, rfl, _, rfl, ite2 (fun h3 => ?_) (fun h3 => ?_)⟩
            · exact ⟨_, rfl, rfl, lo2, _, _, _, rfl, rinv2_hi hJ hb2 (of_decide_eq_true h3)⟩
            · exact ⟨_, rfl, rfl, _, hi2, _, _, rfl, rinv2_lo hJ hb2 (fun z => h3 (decide_eq_true z))⟩
        · rintro σ2 H2 ⟨rfl, lo2, hi2, kk2, mm2, rfl, hJ⟩
          exact ⟨_, rfl, k _ (rinv2_end hJ)⟩
      · have hb : ¬ n < hi * hi := fun z => h (decide_eq_true z)
        refine ⟨_, rfl, _, _, rfl, rfl, cmul (j := 2) (b := 2) hl (by decide) (by decide) (by decide) (by decide), ?_⟩
        exact ⟨rfl, hi * 2, _, rfl, rinv1_step hI hb⟩
    · rintro σ H' ⟨rfl, hi, kk, rfl, hI⟩
      exact (rinv1_end hI nB (by decide)).elim
theorem good_law_is_square (F : IsF K "_law_is_square" "_law_is_square" s_law_is_square A.law_is_square) (T : Txt K mg A) (Gr : Good P w K mg base CX0 1 A.law_root ["_law_n"] spLRoot) : Good P w K mg base CX0 2 A.law_is_square ["_law_n"] spLIsSq := by
  obtain ⟨fd, F⟩ := F
  obtain ⟨f1, G_law_root, b_law_root⟩ := Gr
  refine ⟨fd, F.ok sc_law_is_square (fun vs H Q E h => ?_) (fun cdv A' outer s H vs Q E hr h => ?_), F.binds fun _ _ _ _ _ _ us hl => match us, hl with | [_], _ => rfl⟩
  · obtain ⟨n, rfl, _⟩ := h; rfl
  · obtain ⟨n, rfl, n0, nB, q1, q2⟩ := h
    refine ⟨_, (pss_one (ps_ret (pe_cmpR op_eq (pe_op op_mulW (pe_call G_law_root (hr.mono (by decide)) (by rfl) T.g_law_root T.k_law_root b_law_root .nil pass0 (pa_cons (pv 0) pa_nil)) (pe_call G_law_root (hr.mono (by decide)) (by rfl) T.g_law_root T.k_law_root b_law_root .nil pass0 (pa_cons (pv 0) pa_nil))) (pv 0) (nomark _)))), ?_⟩
    refine ⟨_, rfl, n, rfl, n0, nB, fun z hz => ⟨_, rfl, n, rfl, n0, nB, fun y hy => ⟨_, _, rfl, rfl, cmul (root_lt hz nB) (root_lt hy nB) (by decide) (by decide) (by decide), _, rfl, rfl, ?_⟩⟩⟩
    have e := root_eq hz hy
    subst e
    have hi := notSq_iff n0 hz
    by_cases hs : NotSq n
    · have : decide (V.int (z * z) = V.int n) = false := decide_eq_false fun e => by cases e; exact (hi.mp rfl) hs
      show Q (.bl (decide (V.int (z * z) = V.int n))) H
      rw [this]; exact q1 hs
    · have : decide (V.int (z * z) = V.int n) = true := decide_eq_true (by rw [hi.mpr hs])
      show Q (.bl (decide (V.int (z * z) = V.int n))) H
      rw [this]; exact q2 hs
theorem good_law_beside (F : IsF K "_law_beside" "_law_beside" s_law_beside A.law_beside) (T : Txt K mg A) : Good P w K mg base CX0 1 A.law_beside ["_law_number_here", "_law_n", "_law_d"] (spBeside K) := by
  obtain ⟨fd, F⟩ := F
  refine ⟨fd, F.ok sc_law_beside (fun vs H Q E h => ?_) (fun cdv A' outer s H vs Q E hr h => ?_), F.binds fun _ _ _ _ _ _ us hl => match us, hl with | [_, _, _], _ => rfl⟩
  · obtain ⟨p, m, n, d, B, rfl, _⟩ := h; rfl
  · obtain ⟨p, m, n, d, B, rfl, hm, hn, hd, hB, hB4, k⟩ := h
    refine ⟨_, (pss_cons (ps_if (pt_cmpR op_eq (pe_ix ix_tup (pv 0) pe_int (fun _ _ => rfl)) pe_str (nomark _)) (pss_cons (ps_set (i := 3) sc_law_beside.nd rfl (Or.inl rfl) (pe_op op_mulW (pe_ix ix_tup (pe_ix ix_tup (pv 0) pe_int (fun _ _ => rfl)) pe_int (fun _ _ => rfl)) (pv 2)))
      (pss_cons (ps_set (i := 4) sc_law_beside.nd rfl (Or.inl rfl) (pe_op op_mulW (pv 1) (pe_ix ix_tup (pe_ix ix_tup (pv 0) pe_int (fun _ _ => rfl)) pe_int (fun _ _ => rfl))))
      (pss_one (ps_ret (pe_op op_sub (pe_callTy call_int1 (by rfl) T.n_int (by decide +kernel) (pa_cons (pe_cmpR op_gt (pv 3) (pv 4) (nomark _)) pa_nil)) (pe_callTy call_int1 (by rfl) T.n_int (by decide +kernel) (pa_cons (pe_cmpR op_lt (pv 3) (pv 4) (nomark _)) pa_nil))))))) pss_nil)
      (pss_cons (ps_asg (pe_ix ix_tup (pv 0) pe_int (fun _ _ => rfl)) (pg_tup (by rfl) (pgs_cons (pg_name (i := 5) sc_law_beside.nd rfl (Or.inl rfl)) (pgs_cons (pg_name (i := 6) sc_law_beside.nd rfl (Or.inl rfl)) (pgs_cons (pg_name (i := 7) sc_law_beside.nd rfl (Or.inl rfl)) pgs_nil)))))
      (pss_cons (ps_set (i := 8) sc_law_beside.nd rfl (Or.inl rfl) (pe_op op_add (pe_op op_add (pe_op op_mulW (pe_op op_mulW (pv 5) (pv 2)) (pv 2)) (pe_op op_mulW (pe_op op_mulW (pv 6) (pv 1)) (pv 2))) (pe_op op_mulW (pe_op op_mulW (pv 7) (pv 1)) (pv 1))))
      (pss_cons (ps_set (i := 9) sc_law_beside.nd rfl (Or.inl rfl) (pe_op op_add (pe_op op_mulW (pe_op op_mulW pe_int (pv 7)) (pv 1)) (pe_op op_mulW (pv 6) (pv 2))))
      (pss_cons (ps_if (pt_cmpR op_eq (pe_ix ix_tup (pv 0) pe_int (fun _ _ => rfl)) pe_int (nomark _)) (pss_one (ps_ret (pe_ifExp (PW.pt (pw_or (pt_cmpR op_le (pv 9) pe_int (nomark _)) (pw_or1 (pt_cmpR op_lt (pv 8) pe_int (nomark _))))) pe_int (pe_un un_neg pe_int)))) pss_nil)
      (pss_one (ps_ret (pe_ifExp (PW.pt (pw_or (pt_cmpR op_ge (pv 9) pe_int (nomark _)) (pw_or1 (pt_cmpR op_lt (pv 8) pe_int (nomark _))))) (pe_un un_neg pe_int) pe_int)))))))), ?_⟩
    cases m with
    | rat x y =>
      obtain ⟨p1, hp, hp1, lx, ly⟩ := hm
      refine ⟨_, rfl, p, _, _, _, rfl, rfl, hp, rfl, rfl, _, rfl, iteB (by decide +kernel) ?_⟩
      refine ⟨_, rfl, p, _, _, _, rfl, rfl, hp, rfl, p1, _, _, _, rfl, rfl, hp1, rfl, _, rfl, x, d, rfl, rfl, cmul lx hd hB hB (by omega), ?_⟩
      refine ⟨_, rfl, _, rfl, p, _, _, _, rfl, rfl, hp, rfl, p1, _, _, _, rfl, rfl, hp1, rfl, n, y, rfl, rfl, cmul hn ly hB hB (by omega), ?_⟩
      refine ⟨_, rfl, _, rfl, _, _, rfl, rfl, .inr ⟨_, rfl, _, rfl, _, rfl, _, _, rfl, rfl, .inr ⟨_, rfl, _, _, rfl, rfl, ?_⟩⟩⟩
      have e : (if decide (n * y < x * d) = true then (1 : Int) else 0) - (if decide (x * d < n * y) = true then (1 : Int) else 0) = beside (.rat x y) n d := by
        show _ = sgI (x * d - n * y)
        unfold sgI
        by_cases h1 : n * y < x * d
        · rw [decide_eq_true h1, decide_eq_false (show ¬ x * d < n * y by omega)]
          show (1 : Int) - 0 = _
          rw [if_pos (show 0 < x * d - n * y by omega)]; rfl
        · by_cases h2 : x * d < n * y
          · rw [decide_eq_false h1, decide_eq_true h2]
            show (0 : Int) - 1 = _
            rw [if_neg (show ¬ 0 < x * d - n * y by omega), if_pos (show x * d - n * y < 0 by omega)]; rfl
          · rw [decide_eq_false h1, decide_eq_false h2]
            show (0 : Int) - 0 = _
            rw [if_neg (show ¬ 0 < x * d - n * y by omega), if_neg (show ¬ x * d - n * y < 0 by omega)]; rfl
      show Q (.int ((if decide (n * y < x * d) = true then (1 : Int) else 0) - (if decide (x * d < n * y) = true then (1 : Int) else 0))) H
      rw [e]; exact k
    | root c b a w =>
      obtain ⟨p1, hp, hp1, lc, lb, la⟩ := hm
      refine ⟨_, rfl, p, _, _, _, rfl, rfl, hp, rfl, rfl, _, rfl, iteBF (by decide +kernel) ?_⟩
      refine ⟨_, rfl, p, _, _, _, rfl, rfl, hp, rfl, p1, _, rfl, hp1, rfl, _, _, rfl, _, _, rfl, _, _, rfl, rfl, ?_⟩
      have lcd := mul_lt lc hd
      have lbn := mul_lt lb hn
      have lan := mul_lt la hn
      have l2a : (2 * a).natAbs < 2 ^ (2 + B) := mul_lt (a := 2) (by decide) la
      refine ⟨_, rfl, _, rfl, c, d, rfl, rfl, cmul lc hd hB hB (by omega), _, rfl, _, d, rfl, rfl, cmul lcd hd (by omega) hB (by omega), _, rfl, _, rfl, b, n, rfl, rfl, cmul lb hn hB hB (by omega), _, rfl, _, d, rfl, rfl, cmul lbn hd (by omega) hB (by omega), _, _, rfl, rfl,
        _, rfl, _, rfl, a, n, rfl, rfl, cmul la hn hB hB (by omega), _, rfl, _, n, rfl, rfl, cmul lan hn (by omega) hB (by omega), _, _, rfl, rfl, ?_⟩
      refine ⟨_, rfl, _, a, rfl, rfl, cmul (a := 2) (by decide) la (by decide) hB (by omega), _, rfl, _, n, rfl, rfl, cmul l2a hn (by omega) hB (by omega), _, rfl, _, rfl, b, d, rfl, rfl, cmul lb hd hB hB (by omega), _, _, rfl, rfl, ?_⟩
      have kk : beside (.root c b a w) n d = if w = 1 then (if 2 * a * n + b * d ≤ 0 ∨ c * d * d + b * n * d + a * n * n < 0 then (1 : Int) else -1) else (if 0 ≤ 2 * a * n + b * d ∨ c * d * d + b * n * d + a * n * n < 0 then -1 else 1) := rfl
      rw [kk] at k
      refine ⟨_, rfl, p, _, _, _, rfl, rfl, hp, rfl, rfl, _, rfl, ite2 (fun h => ?_) (fun h => ?_)⟩
      · rw [if_pos (dI_t h)] at k
        refine ⟨_, rfl, _, _, rfl, rfl, _, rfl, ite2 (fun h1 => ?_) (fun h1 => ⟨_, rfl, _, _, rfl, rfl, _, rfl, ite2 (fun h2 => ?_) (fun h2 => ?_)⟩)⟩
        · rw [if_pos (.inl (of_decide_eq_true h1))] at k; exact k
        · rw [if_pos (.inr (of_decide_eq_true h2))] at k; exact k
        · rw [if_neg (fun z => z.elim (fun z => h1 (decide_eq_true z)) (fun z => h2 (decide_eq_true z)))] at k
          exact ⟨_, rfl, k⟩
      · rw [if_neg (dI_f h)] at k
        refine ⟨_, rfl, _, _, rfl, rfl, _, rfl, ite2 (fun h1 => ?_) (fun h1 => ⟨_, rfl, _, _, rfl, rfl, _, rfl, ite2 (fun h2 => ?_) (fun h2 => ?_)⟩)⟩
        · rw [if_pos (.inl (of_decide_eq_true h1))] at k; exact ⟨_, rfl, k⟩
        · rw [if_pos (.inr (of_decide_eq_true h2))] at k; exact ⟨_, rfl, k⟩
        · rw [if_neg (fun z => z.elim (fun z => h1 (decide_eq_true z)) (fun z => h2 (decide_eq_true z)))] at k
          exact k
theorem good_law_told (F : IsF K "_law_told" "_law_told" s_law_told A.law_told) (T : Txt K mg A) (Gf : Good P w K mg base (L2.CX P w) 5 A.floor_of ["number", "q"] (spFloor K A.BadValue)) : Good P w K mg base CX0 6 A.law_told ["_law_number_here", "_law_q"] (spTold K) := by
  obtain ⟨fd, F⟩ := F
  obtain ⟨f1, G_floor_of, b_floor_of⟩ := Gf
  refine ⟨fd, F.ok sc_law_told (fun vs H Q E h => ?_) (fun cdv A' outer s H vs Q E hr h => ?_), F.binds fun _ _ _ _ _ _ us hl => match us, hl with | [_, _], _ => rfl⟩
  · obtain ⟨x, y, rfl, _⟩ := h; rfl
  · obtain ⟨x, y, rfl, h⟩ := h
    refine ⟨_, pss_one (ps_try_as (i := 2) (tb := fun W => tRet (tCallS (spFloor K A.BadValue) (WE W) (tCons (tVar 0) (tCons (tVar 1) tNil)))) (ts := fun a cls d => tRet (tXf a cls d A.BadValue "name" (tVar 2))) (Wout := fun _ _ _ _ => False) rfl rfl sc_law_told.nd rfl rfl ⟨rfl, by decide, Or.inl T.gC⟩ takes0
      (fun W pn xe tk _ => pss_one (ps_ret (by exact (pe_callS G_floor_of (hr.mono (by decide)) rfl T.g_floor_of T.k_floor_of b_floor_of (fun σ => passAt tk σ) (by exact (pa_cons (pv 0) (pa_cons (pv 1) pa_nil)))))))
      (fun a oe cls d pn hz hf => pss_one (ps_ret (by exact (pe_xf T.xf T.nN hz hf (pv 2)))))), ?_⟩
    have bad : ∀ (nm : Str), (∀ H', Same H H' → Q (.str nm) H') → Bad A.BadValue nm H (WE (wAs K (.ref A.BadValue) 2 (fun a cls d => tRet (tXf a cls d A.BadValue "name" (tVar 2))) (fun _ _ _ _ => False) { nx := fun _ H' => Q .non H', rt := Q }) (start N_law_told [x, y])) := fun nm k H' d s5 hd =>
      ⟨true, T.te, fun _ a0 _ => ⟨_, rfl, rfl, rfl, d, _, _, rfl, hd, rfl, k H' s5⟩, fun q => Bool.noConfusion q⟩
    refine ⟨_, rfl, _, rfl, x, y, rfl, ?_⟩
    rcases h with ⟨rfl, k⟩ | ⟨p, m, B, rfl, hm, hv, hB, hB4, h⟩
    · exact .inl ⟨rfl, bad _ k⟩
    · refine .inr ⟨p, m, B, rfl, hm, hv, hB, hB4, ?_⟩
      rcases h with ⟨hq, k⟩ | ⟨q, rfl, hq1, hqB, k⟩
      · exact .inl ⟨hq, bad _ k⟩
      · exact .inr ⟨q, rfl, hq1, hqB, k⟩
end
end K12

set_option maxHeartbeats 4000000
namespace K12
open PySem PySem.Spec PyProof.Rows L2
def spNumber (K : PySem.W.Frag) : Sp := fun vs H Q _ => ∃ p : Addr, vs = [.ref p] ∧ Stm H p ∧ ∀ H' r m, SameB p H H' → Stm H' p → NumAt K H' r m 40 → m.Valid → Q (.ref r) H'
theorem notSq8 : NotSq 8 := by
  intro s e
  have h1 : (s.natAbs : Int) * (s.natAbs : Int) = 8 := by rw [← e]; exact Int.natAbs_mul_self
  have h2 : s.natAbs * s.natAbs = 8 := by
    have := h1
    rw [← Int.natCast_mul] at this
    omega
  have h3 : s.natAbs < 3 := Nat.not_le.mp fun h => by
    have := Nat.mul_le_mul h h
    omega
  match hk : s.natAbs, h3 with
  | 0, _ => rw [hk] at h2; omega
  | 1, _ => rw [hk] at h2; omega
  | 2, _ => rw [hk] at h2; omega
theorem valid8 {w : Int} (h0 : 0 ≤ w) (h1 : w < 2) : (Num.root (0 - 2) 0 1 w).Valid := ⟨by decide, by decide, by decide, notSq8, by omega⟩
theorem num_parts {a b c : Int} (ha : 0 < a) : 0 < gc (gc a b) c ∧ 0 < a / gc (gc a b) c ∧ Nat.gcd (Nat.gcd (a / gc (gc a b) c).natAbs (b / gc (gc a b) c).natAbs) (c / gc (gc a b) c).natAbs = 1 ∧ gc (gc a b) c ≤ a ∧ gc (gc a b) c ∣ c := by
  have e : gc (gc a b) c = ((Nat.gcd (Nat.gcd a.natAbs b.natAbs) c.natAbs : Nat) : Int) := by
    unfold gc
    rw [Int.natAbs_natCast]
  have d1 : gc (gc a b) c ∣ a := Int.dvd_trans (gc_l _ _) (gc_l _ _)
  have d2 : gc (gc a b) c ∣ b := Int.dvd_trans (gc_l _ _) (gc_r _ _)
  have d3 : gc (gc a b) c ∣ c := gc_r _ _
  have g0 : 0 < gc (gc a b) c := by
    rcases Int.lt_trichotomy (gc (gc a b) c) 0 with h | h | h
    · rw [e] at h; omega
    · rw [h] at d1; have := Int.zero_dvd.mp d1; omega
    · exact h
  refine ⟨g0, ?_, ?_, Int.le_of_dvd ha d1, d3⟩
  · refine Int.pos_of_mul_pos_right (a := gc (gc a b) c) ?_ (by omega)
    rw [Int.mul_ediv_cancel' d1]; exact ha
  · rw [Int.natAbs_ediv_of_dvd d1, Int.natAbs_ediv_of_dvd d2, Int.natAbs_ediv_of_dvd d3, e, Int.natAbs_natCast]
    exact low_parts3 (by omega)
theorem gc_lt {a b : Int} {B : Nat} (h : 0 < a) (ha : a.natAbs < 2 ^ B) : (gc a b).natAbs < 2 ^ B := by
  have h1 : gc a b ≤ a := Int.le_of_dvd h (gc_l a b)
  have h2 : 0 ≤ gc a b := by unfold gc; omega
  omega
theorem int_lt {n : Int} {B : Nat} (h : n.natAbs < 2 ^ B) (hB : B ≤ 2000) : n < 2 ^ 2000 := by
  have h1 := lt_up h hB
  have h2 : ((2 ^ 2000 : Nat) : Int) = (2 : Int) ^ 2000 := Int.natCast_pow 2 2000
  generalize (2 : Int) ^ 2000 = u at *
  generalize (2 : Nat) ^ 2000 = v at *
  omega
section
variable {P : Program} {w : World} {K : PySem.W.Frag} {mg : Str → Option Value} {base : Heap} {A : Ad}
theorem good_law_number (F : IsF K "_law_number" "_law_number" s_law_number A.law_number) (T : Txt K mg A) (Gn : Good P w K mg base CX0 1 A.law_next ["_law_stream_here", "_law_many"] spNext) (Gr : Good P w K mg base CX0 3 A.law_ratio ["_law_stream_here", "_law_top", "_law_most"] (spLRatio K))
    (Gg : Good P w K mg base CX0 1 A.law_gcd ["_law_a", "_law_b"] spLGcd) (Gq : Good P w K mg base CX0 2 A.law_is_square ["_law_n"] spLIsSq) : Good P w K mg base CX0 4 A.law_number ["_law_stream_here"] (spNumber K) := by
  obtain ⟨fd, F⟩ := F
  obtain ⟨f1, G_law_next, b_law_next⟩ := Gn
  obtain ⟨f2, G_law_ratio, b_law_ratio⟩ := Gr
  obtain ⟨f3, G_law_gcd, b_law_gcd⟩ := Gg
  obtain ⟨f4, G_law_is_square, b_law_is_square⟩ := Gq
  refine ⟨fd, F.ok sc_law_number (fun vs H Q E h => ?_) (fun cdv A' outer s H vs Q E hr h => ?_), F.binds fun _ _ _ _ _ _ us hl => match us, hl with | [_], _ => rfl⟩
  · obtain ⟨p, rfl, _⟩ := h; rfl
  · obtain ⟨p, rfl, hp, k⟩ := h
    refine ⟨_, (pss_cons (ps_if (pt_cmpR op_eq (pe_call G_law_next (hr.mono (by decide)) (by rfl) T.g_law_next T.k_law_next b_law_next .nil pass0 (pa_cons (pv 0) (pa_cons pe_int pa_nil))) pe_int (nomark _)) (pss_one (ps_ret (pe_tup (pa_cons pe_str (pa_cons (pe_call G_law_ratio (hr.mono (by decide)) (by rfl) T.g_law_ratio T.k_law_ratio b_law_ratio .nil pass0 (pa_cons (pv 0) (pa_cons pe_int (pa_cons pe_int pa_nil)))) pa_nil))))) pss_nil)
      (pss_cons (ps_set (i := 1) sc_law_number.nd rfl (Or.inl rfl) (pe_op op_add pe_int (pe_call G_law_next (hr.mono (by decide)) (by rfl) T.g_law_next T.k_law_next b_law_next .nil pass0 (pa_cons (pv 0) (pa_cons pe_int pa_nil)))))
      (pss_cons (ps_set (i := 2) sc_law_number.nd rfl (Or.inl rfl) (pe_op op_sub (pe_call G_law_next (hr.mono (by decide)) (by rfl) T.g_law_next T.k_law_next b_law_next .nil pass0 (pa_cons (pv 0) (pa_cons pe_int pa_nil))) pe_int))
      (pss_cons (ps_set (i := 3) sc_law_number.nd rfl (Or.inl rfl) (pe_op op_sub (pe_call G_law_next (hr.mono (by decide)) (by rfl) T.g_law_next T.k_law_next b_law_next .nil pass0 (pa_cons (pv 0) (pa_cons pe_int pa_nil))) pe_int))
      (pss_cons (ps_set (i := 4) sc_law_number.nd rfl (Or.inl rfl) (pe_call G_law_gcd (hr.mono (by decide)) (by rfl) T.g_law_gcd T.k_law_gcd b_law_gcd .nil pass0 (pa_cons (pe_call G_law_gcd (hr.mono (by decide)) (by rfl) T.g_law_gcd T.k_law_gcd b_law_gcd .nil pass0 (pa_cons (pv 1) (pa_cons (pv 2) pa_nil))) (pa_cons (pv 3) pa_nil))))
      (pss_cons (ps_par3 (i := 1) (j := 2) (l := 3) (by rfl) sc_law_number.nd rfl rfl rfl (by decide) (by decide) (by decide) rfl rfl rfl (pa_cons (pe_op op_fdivW (pv 1) (pv 4)) (pa_cons (pe_op op_fdivW (pv 2) (pv 4)) (pa_cons (pe_op op_fdivW (pv 3) (pv 4)) pa_nil))) (by rfl))
      (pss_cons (ps_set (i := 5) sc_law_number.nd rfl (Or.inl rfl) (pe_op op_sub (pe_op op_mulW (pv 2) (pv 2)) (pe_op op_mulW (pe_op op_mulW pe_int (pv 1)) (pv 3))))
      (pss_cons (ps_if (PW.pt (pw_or (pt_cmpR op_le (pv 5) pe_int (nomark _)) (pw_or1 (pt_val (pe_call G_law_is_square (hr.mono (by decide)) (by rfl) T.g_law_is_square T.k_law_is_square b_law_is_square .nil pass0 (pa_cons (pv 5) pa_nil)))))) (pss_one (ps_ret (pe_tup (pa_cons pe_str (pa_cons (pe_tup (pa_cons (pe_op op_sub pe_int pe_int) (pa_cons pe_int (pa_cons pe_int pa_nil)))) (pa_cons (pe_call G_law_next (hr.mono (by decide)) (by rfl) T.g_law_next T.k_law_next b_law_next .nil pass0 (pa_cons (pv 0) (pa_cons pe_int pa_nil))) pa_nil)))))) pss_nil)
      (pss_one (ps_ret (pe_tup (pa_cons pe_str (pa_cons (pe_tup (pa_cons (pv 3) (pa_cons (pv 2) (pa_cons (pv 1) pa_nil)))) (pa_cons (pe_call G_law_next (hr.mono (by decide)) (by rfl) T.g_law_next T.k_law_next b_law_next .nil pass0 (pa_cons (pv 0) (pa_cons pe_int pa_nil))) pa_nil)))))))))))))), ?_⟩
    have l50 : ∀ {n : Int}, n.natAbs < 2 ^ 6 → n.natAbs < 2 ^ 8000 := fun h => lt_up h (by decide)
    refine ⟨_, rfl, p, 3, rfl, hp, by decide, l50 (by decide), fun H1 d s1 p1 d0 d1 => ⟨rfl, _, rfl, ite2 (fun _ => ?_) (fun _ => ?_)⟩⟩
    · refine ⟨_, rfl, p, rfl, p1, fun H2 r n d s2 p2 hr2 hd hg ln ld => ⟨two_le, fun t ht => ?_⟩⟩
      exact k _ t (.rat n d) ((s1.trans s2).trans ((Same.new ht).sb p)) (p2.same (Same.new ht)) ⟨r, sqt_new, (Same.new ht).sqt hr2, ln, ld⟩ ⟨hd, hg⟩
    · refine ⟨_, rfl, p, 9, rfl, p1, by decide, l50 (by decide), fun H2 a s2 p2 a0 a1 => ⟨_, _, rfl, rfl, ?_⟩⟩
      refine ⟨_, rfl, p, 41, rfl, p2, by decide, l50 (by decide), fun H3 b s3 p3 b0 b1 => ⟨_, _, rfl, rfl, ?_⟩⟩
      refine ⟨_, rfl, p, 41, rfl, p3, by decide, l50 (by decide), fun H4 c s4 p4 c0 c1 => ⟨_, _, rfl, rfl, ?_⟩⟩
      have s04 := ((s1.trans s2).trans s3).trans s4
      have la : (1 + a).natAbs < 2 ^ 6 := by omega
      have lb : (b - 20).natAbs < 2 ^ 6 := by omega
      have lc : (c - 20).natAbs < 2 ^ 6 := by omega
      have va : 0 < 1 + a := by omega
      dsimp only
      generalize 1 + a = a at *
      generalize b - 20 = b at *
      generalize c - 20 = c at *
      obtain ⟨g0, ga, gg, gle, _⟩ := num_parts (b := b) (c := c) va
      have lg : (gc (gc a b) c).natAbs < 2 ^ 6 := by omega
      refine ⟨_, rfl, _, rfl, a, b, rfl, l50 la, l50 lb, _, rfl, gc a b, c, rfl, l50 (gc_lt va la), l50 lc, ?_⟩
      have cd : ∀ i : Int, CDivW i (gc (gc a b) c) := fun i => wide_div g0 lg (by decide) (by decide)
      refine ⟨_, rfl, _, rfl, _, _, rfl, rfl, cd _, _, rfl, _, rfl, _, _, rfl, rfl, cd _, _, rfl, _, rfl, _, _, rfl, rfl, cd _, _, _, _, rfl, ?_⟩
      have la' := div_lt g0 la
      have lb' := div_lt g0 lb
      have lc' := div_lt g0 lc
      dsimp only
      generalize a / gc (gc a b) c = a' at *
      generalize b / gc (gc a b) c = b' at *
      generalize c / gc (gc a b) c = c' at *
      obtain ⟨l4, li⟩ := disc_lt lc' lb' la'
      have up : ∀ {n : Int}, n.natAbs < 2 ^ 6 → n.natAbs < 2 ^ 40 := fun h => lt_up h (by decide)
      have fall : ∀ w : Int, 0 ≤ w → w < 2 → ∀ H5, SameB p H H5 → Stm H5 p → ∀ t1, SqT K H5 t1 [.int (0 - 2), .int 0, .int 1] → ∀ t, H5 t = none → Q (.ref t) (upd H5 t (.tup [.str "root", .ref t1, .int w])) := fun w w0 w1 H5 s5 p5 t1 h1 t ht =>
        k _ t (.root (0 - 2) 0 1 w) (s5.trans ((Same.new ht).sb p)) (p5.same (Same.new ht)) ⟨t1, sqt_new, (Same.new ht).sqt h1, by decide, by decide, by decide⟩ (valid8 w0 w1)
      refine ⟨_, rfl, _, rfl, b', b', rfl, rfl, cmul lb' lb' (by decide) (by decide) (by decide), _, rfl, _, a', rfl, rfl, cmul (a := 3) (by decide) la' (by decide) (by decide) (by decide), _, rfl, _, c', rfl, rfl, cmul l4 lc' (by decide) (by decide) (by decide), _, _, rfl, rfl, ?_⟩
      refine ⟨_, rfl, _, _, rfl, rfl, _, rfl, ite2 (fun h => ?_) (fun h => ?_)⟩
      · refine ⟨_, _, rfl, rfl, three_le, fun t1 ht1 => ⟨_, rfl, p, 2, rfl, p4.same (Same.new ht1), by decide, l50 (by decide), fun H5 w s5 p5 w0 w1 => ⟨three_le, fall w w0 w1 H5 ((s04.trans ((Same.new ht1).sb p)).trans s5) p5 t1 (sb_sqt s5 (p4.same (Same.new ht1)) sqt_new)⟩⟩⟩
      · have vi : 0 < b' * b' - 4 * a' * c' := Int.not_le.mp fun z => h (decide_eq_true z)
        refine ⟨_, rfl, _, rfl, by omega, int_lt li (by decide), fun hs => ⟨_, rfl, iteF ?_⟩, fun hs => ⟨_, rfl, iteT ?_⟩⟩
        · refine ⟨_, rfl, _, rfl, _, rfl, three_le, fun t1 ht1 => ⟨_, rfl, p, 2, rfl, p4.same (Same.new ht1), by decide, l50 (by decide), fun H5 w s5 p5 w0 w1 => ⟨three_le, fun t ht => ?_⟩⟩⟩
          exact k _ t (.root c' b' a' w) (((s04.trans ((Same.new ht1).sb p)).trans s5).trans ((Same.new ht).sb p)) (p5.same (Same.new ht)) ⟨t1, sqt_new, (Same.new ht).sqt (sb_sqt s5 (p4.same (Same.new ht1)) sqt_new), up lc', up lb', up la'⟩ ⟨ga, gg, vi, hs, by omega⟩
        · refine ⟨_, _, rfl, rfl, three_le, fun t1 ht1 => ⟨_, rfl, p, 2, rfl, p4.same (Same.new ht1), by decide, l50 (by decide), fun H5 w s5 p5 w0 w1 => ⟨three_le, fall w w0 w1 H5 ((s04.trans ((Same.new ht1).sb p)).trans s5) p5 t1 (sb_sqt s5 (p4.same (Same.new ht1)) sqt_new)⟩⟩⟩
end
end K12

set_option maxHeartbeats 4000000
namespace K12
open PySem PySem.Spec PyProof.Rows L2
theorem neg_div {c g : Int} (h : c < 0) (hg : 0 < g) (d : g ∣ c) : c / g < 0 := by
  obtain ⟨k, rfl⟩ := d
  rw [Int.mul_ediv_cancel_left _ (show g ≠ 0 by omega)]
  refine Int.not_le.mp fun z => ?_
  have := Int.mul_nonneg (show 0 ≤ g by omega) z
  omega
theorem disc_pos {a b c : Int} (ha : 0 < a) (hc : c < 0) : 0 < b * b - 4 * a * c := by
  have h1 : 0 ≤ b * b := by
    by_cases h : 0 ≤ b
    · exact Int.mul_nonneg h h
    · have := Int.mul_nonneg (show 0 ≤ -b by omega) (show 0 ≤ -b by omega)
      rw [Int.neg_mul_neg] at this
      exact this
  have h2 := Int.mul_neg_of_pos_of_neg (show 0 < 4 * a by omega) hc
  omega
section
variable {P : Program} {w : World} {K : PySem.W.Frag} {mg : Str → Option Value} {base : Heap} {A : Ad}
theorem good_law_long (F : IsF K "_law_long" "_law_long" s_law_long A.law_long) (T : Txt K mg A) (Gn : Good P w K mg base CX0 1 A.law_next ["_law_stream_here", "_law_many"] spNext) (Gl : Good P w K mg base CX0 2 A.law_low ["_law_n", "_law_d"] (spLLow K))
    (Gg : Good P w K mg base CX0 1 A.law_gcd ["_law_a", "_law_b"] spLGcd) (Gq : Good P w K mg base CX0 2 A.law_is_square ["_law_n"] spLIsSq) : Good P w K mg base CX0 4 A.law_long ["_law_stream_here"] (spNumber K) := by
  obtain ⟨fd, F⟩ := F
  obtain ⟨f1, G_law_next, b_law_next⟩ := Gn
  obtain ⟨f2, G_law_low, b_law_low⟩ := Gl
  obtain ⟨f3, G_law_gcd, b_law_gcd⟩ := Gg
  obtain ⟨f4, G_law_is_square, b_law_is_square⟩ := Gq
  refine ⟨fd, F.ok sc_law_long (fun vs H Q E h => ?_) (fun cdv A' outer s H vs Q E hr h => ?_), F.binds fun _ _ _ _ _ _ us hl => match us, hl with | [_], _ => rfl⟩
  · obtain ⟨p, rfl, _⟩ := h; rfl
  · obtain ⟨p, rfl, hp, k⟩ := h
    refine ⟨_, (pss_cons (ps_set (i := 1) sc_law_long.nd rfl (Or.inl rfl) (pe_op op_add pe_int (pe_call G_law_next (hr.mono (by decide)) (by rfl) T.g_law_next T.k_law_next b_law_next .nil pass0 (pa_cons (pv 0) (pa_cons (pe_op op_pow pe_int pe_int) pa_nil)))))
      (pss_cons (ps_set (i := 2) sc_law_long.nd rfl (Or.inl rfl) (pe_op op_sub (pe_call G_law_next (hr.mono (by decide)) (by rfl) T.g_law_next T.k_law_next b_law_next .nil pass0 (pa_cons (pv 0) (pa_cons (pe_op op_mulW pe_int (pe_op op_pow pe_int pe_int)) pa_nil))) (pe_op op_pow pe_int pe_int)))
      (pss_cons (ps_set (i := 3) sc_law_long.nd rfl (Or.inl rfl) (pe_op op_sub (pe_op op_sub pe_int pe_int) (pe_call G_law_next (hr.mono (by decide)) (by rfl) T.g_law_next T.k_law_next b_law_next .nil pass0 (pa_cons (pv 0) (pa_cons (pe_op op_pow pe_int pe_int) pa_nil)))))
      (pss_cons (ps_set (i := 4) sc_law_long.nd rfl (Or.inl rfl) (pe_call G_law_gcd (hr.mono (by decide)) (by rfl) T.g_law_gcd T.k_law_gcd b_law_gcd .nil pass0 (pa_cons (pe_call G_law_gcd (hr.mono (by decide)) (by rfl) T.g_law_gcd T.k_law_gcd b_law_gcd .nil pass0 (pa_cons (pv 1) (pa_cons (pv 2) pa_nil))) (pa_cons (pv 3) pa_nil))))
      (pss_cons (ps_par3 (i := 1) (j := 2) (l := 3) (by rfl) sc_law_long.nd rfl rfl rfl (by decide) (by decide) (by decide) rfl rfl rfl (pa_cons (pe_op op_fdivW (pv 1) (pv 4)) (pa_cons (pe_op op_fdivW (pv 2) (pv 4)) (pa_cons (pe_op op_fdivW (pv 3) (pv 4)) pa_nil))) (by rfl))
      (pss_cons (ps_if (pt_val (pe_call G_law_is_square (hr.mono (by decide)) (by rfl) T.g_law_is_square T.k_law_is_square b_law_is_square .nil pass0 (pa_cons (pe_op op_sub (pe_op op_mulW (pv 2) (pv 2)) (pe_op op_mulW (pe_op op_mulW pe_int (pv 1)) (pv 3))) pa_nil))) (pss_one (ps_ret (pe_tup (pa_cons pe_str (pa_cons (pe_call G_law_low (hr.mono (by decide)) (by rfl) T.g_law_low T.k_law_low b_law_low .nil pass0 (pa_cons (pv 2) (pa_cons (pv 1) pa_nil))) pa_nil))))) pss_nil)
      (pss_one (ps_ret (pe_tup (pa_cons pe_str (pa_cons (pe_tup (pa_cons (pv 3) (pa_cons (pv 2) (pa_cons (pv 1) pa_nil)))) (pa_cons (pe_call G_law_next (hr.mono (by decide)) (by rfl) T.g_law_next T.k_law_next b_law_next .nil pass0 (pa_cons (pv 0) (pa_cons pe_int pa_nil))) pa_nil)))))))))))), ?_⟩
    have l50 : ∀ {n : Int}, n.natAbs < 2 ^ 32 → n.natAbs < 2 ^ 8000 := fun h => lt_up h (by decide)
    have cpow : CPow 10 9 := ⟨by decide, by decide, by decide⟩
    refine ⟨_, rfl, _, _, rfl, rfl, cpow, p, 10 ^ 9, rfl, hp, by decide, l50 (by decide), fun H2 a s2 p2 a0 a1 => ⟨_, _, rfl, rfl, ?_⟩⟩
    refine ⟨_, rfl, _, _, rfl, rfl, cpow, _, _, rfl, rfl, cmul (i := 2) (j := 10 ^ 9) (a := 2) (b := 32) (by decide) (by decide) (by decide) (by decide) (by decide), p, 2 * 10 ^ 9, rfl, p2, by decide, l50 (by decide), fun H3 b s3 p3 b0 b1 => ⟨_, _, rfl, rfl, cpow, _, _, rfl, rfl, ?_⟩⟩
    refine ⟨_, _, rfl, rfl, _, rfl, _, _, rfl, rfl, cpow, p, 10 ^ 9, rfl, p3, by decide, l50 (by decide), fun H4 c s4 p4 c0 c1 => ⟨_, _, rfl, rfl, ?_⟩⟩
    have s04 := (s2.trans s3).trans s4
    have e9 : (10 : Int) ^ Int.toNat 9 = 1000000000 := by decide
    dsimp only
    rw [e9] at *
    have la : (1 + a).natAbs < 2 ^ 32 := by omega
    have lb : (b - 1000000000).natAbs < 2 ^ 32 := by omega
    have lc : (0 - 1 - c).natAbs < 2 ^ 32 := by omega
    have va : 0 < 1 + a := by omega
    have vc : 0 - 1 - c < 0 := by omega
    generalize 1 + a = a at *
    generalize b - 1000000000 = b at *
    generalize 0 - 1 - c = c at *
    obtain ⟨g0, ga, gg, gle, gd⟩ := num_parts (b := b) (c := c) va
    have lg : (gc (gc a b) c).natAbs < 2 ^ 32 := by omega
    refine ⟨_, rfl, _, rfl, a, b, rfl, l50 la, l50 lb, _, rfl, gc a b, c, rfl, l50 (gc_lt va la), l50 lc, ?_⟩
    have cd : ∀ i : Int, CDivW i (gc (gc a b) c) := fun i => wide_div g0 lg (by decide) (by decide)
    refine ⟨_, rfl, _, rfl, _, _, rfl, rfl, cd _, _, rfl, _, rfl, _, _, rfl, rfl, cd _, _, rfl, _, rfl, _, _, rfl, rfl, cd _, _, _, _, rfl, ?_⟩
    have la' := div_lt g0 la
    have lb' := div_lt g0 lb
    have lc' := div_lt g0 lc
    have nc := neg_div vc g0 gd
    dsimp only
    generalize a / gc (gc a b) c = a' at *
    generalize b / gc (gc a b) c = b' at *
    generalize c / gc (gc a b) c = c' at *
    obtain ⟨l4, li⟩ := disc_lt lc' lb' la'
    have vi := disc_pos (b := b') ga nc
    have up : ∀ {n : Int}, n.natAbs < 2 ^ 32 → n.natAbs < 2 ^ 40 := fun h => lt_up h (by decide)
    refine ⟨_, rfl, _, rfl, b', b', rfl, rfl, cmul lb' lb' (by decide) (by decide) (by decide), _, rfl, _, a', rfl, rfl, cmul (a := 3) (by decide) la' (by decide) (by decide) (by decide), _, rfl, _, c', rfl, rfl, cmul l4 lc' (by decide) (by decide) (by decide), _, _, rfl, rfl, b' * b' - 4 * a' * c', rfl, by omega, int_lt li (by decide), fun hs => ⟨_, rfl, iteF ?_⟩, fun hs => ⟨_, rfl, iteT ?_⟩⟩
    · refine ⟨_, rfl, _, rfl, _, rfl, three_le, fun t1 ht1 => ⟨_, rfl, p, 2, rfl, p4.same (Same.new ht1), by decide, l50 (by decide), fun H5 w s5 p5 w0 w1 => ⟨three_le, fun t ht => ?_⟩⟩⟩
      exact k _ t (.root c' b' a' w) (((s04.trans ((Same.new ht1).sb p)).trans s5).trans ((Same.new ht).sb p)) (p5.same (Same.new ht)) ⟨t1, sqt_new, (Same.new ht).sqt (sb_sqt s5 (p4.same (Same.new ht1)) sqt_new), up lc', up lb', up la'⟩ ⟨ga, gg, vi, hs, by omega⟩
    · refine ⟨_, rfl, _, rfl, b', a', 32, rfl, ga, lb', la', by decide, by decide, fun H5 r s5 h5 => ⟨two_le, fun t ht => ?_⟩⟩
      obtain ⟨q1, q2, _, _, q5⟩ := gc_low (n := b') ga
      exact k _ t (.rat _ _) ((s04.trans (s5.sb p)).trans ((Same.new ht).sb p)) ((p4.same s5).same (Same.new ht)) ⟨r, sqt_new, (Same.new ht).sqt h5, up (div_lt q5 lb'), up (div_lt q5 la')⟩ ⟨q1, q2⟩
end
end K12

set_option maxHeartbeats 16000000
namespace K12
open PySem PySem.Spec PyProof.Rows L2
theorem NumAt.up {K : PySem.W.Frag} {H : Hp} {p : Addr} {m : Num} {B C : Nat} (h : NumAt K H p m B) (e : B ≤ C) : NumAt K H p m C := by
  cases m with
  | rat n d =>
    obtain ⟨p1, h1, h2, h3, h4⟩ := h
    exact ⟨p1, h1, h2, lt_up h3 e, lt_up h4 e⟩
  | root c b a w =>
    obtain ⟨p1, h1, h2, h3, h4, h5⟩ := h
    exact ⟨p1, h1, h2, lt_up h3 e, lt_up h4 e, lt_up h5 e⟩
/-- the floor's size -/
theorem root_half {n z : Int} {B : Nat} (h : IsRoot z n) (hn : n.natAbs < 2 ^ (2 * B)) : z.natAbs < 2 ^ B := by
  obtain ⟨z0, z1, _⟩ := h
  refine Nat.not_le.mp fun h => ?_
  have h1 := Nat.mul_le_mul h h
  rw [← Nat.pow_add, show B + B = 2 * B by omega] at h1
  have h2 : z.natAbs * z.natAbs ≤ n.natAbs := by
    have e1 : (((z.natAbs * z.natAbs : Nat)) : Int) = z * z := by rw [Int.natCast_mul]; exact Int.natAbs_mul_self
    omega
  omega
theorem flo_lt {K : PySem.W.Frag} {H : Hp} {p : Addr} {m : Num} {q z : Int} (h : NumAt K H p m 40) (hv : m.Valid) (hq : q.natAbs < 2 ^ 100) (hz : RootOf m q z) : (m.flo q z).natAbs < 2 ^ 149 := by
  cases m with
  | rat n d =>
    obtain ⟨p1, h1, h2, h3, h4⟩ := h
    exact lt_up (div_lt hv.1 (mul_lt h3 hq)) (by decide)
  | root c b a w =>
    obtain ⟨p1, h1, h2, lc, lb, la⟩ := h
    obtain ⟨l4, li⟩ := disc_lt lc lb la
    have va := hv.1
    have lz : z.natAbs < 2 ^ 142 := root_half hz (lt_up (mul_lt (mul_lt hq hq) li) (by decide))
    have lbq := mul_lt lb hq
    show (if w = 1 then (z - b * q) / (2 * a) else (-z - 1 - b * q) / (2 * a)).natAbs < 2 ^ 149
    split
    · exact lt_up (div_lt (by omega) (lt_sub lz lbq)) (by decide)
    · have l1 : (-z - 1).natAbs < 2 ^ 143 := by
        have := pow_le (show 142 ≤ 143 by decide)
        rw [Nat.pow_succ 2 142]
        omega
      exact lt_up (div_lt (by omega) (lt_sub l1 lbq)) (by decide)
/-- a floor of the law -/
def Fl (m : Num) (q x : Int) : Prop := 0 ≤ beside m x q ∧ beside m (x + 1) q < 0
theorem fl_ok {m : Num} (hv : m.Valid) {q z : Int} (hq : 1 ≤ q) (hz : RootOf m q z) : Fl m q (m.flo q z) := floor_ok hv (by omega) (by cases m <;> exact hz)
/-- the comparison with the floor's rational -/
theorem cmp_low {m : Num} (hv : m.Valid) {x q : Int} (hq : 0 < q) : cmp m (.rat (x / gc x q) (q / gc x q)) = beside m x q := by
  obtain ⟨q1, q2, q3, q4, q5⟩ := gc_low (n := x) hq
  rw [cmp_rat hv q1, ← beside_scale hv q1 q5, q3, q4]
def spLaw (K : PySem.W.Frag) : Sp := fun vs H Q _ => ∃ (a : Addr) (ns : List Int), vs = [.ref a] ∧ SqL K H a (ns.map V.int) ∧ ∀ H', Q (.bl true) H'
/-- the law's two numbers -/
structure Two (K : PySem.W.Frag) (H : Hp) (pn r1 r2 : Addr) (m1 m2 : Num) : Prop where
  lst : H pn = some (.lst [.ref r1, .ref r2])
  n1 : NumAt K H r1 m1 40
  n2 : NumAt K H r2 m2 40
  v1 : m1.Valid
  v2 : m2.Valid
theorem Two.same {K : PySem.W.Frag} {H H' : Hp} {pn r1 r2 : Addr} {m1 m2 : Num} (h : Two K H pn r1 r2 m1 m2) (e : Same H H') : Two K H' pn r1 r2 m1 m2 := ⟨e _ _ h.lst, h.n1.same e, h.n2.same e, h.v1, h.v2⟩
theorem Two.sb {K : PySem.W.Frag} {H H' : Hp} {p pn r1 r2 : Addr} {m1 m2 : Num} (h : Two K H pn r1 r2 m1 m2) (hp : Stm H p) (e : SameB p H H') (hne : pn ≠ p) : Two K H' pn r1 r2 m1 m2 := ⟨e _ _ hne h.lst, sb_num e hp h.n1, sb_num e hp h.n2, h.v1, h.v2⟩
theorem sbl_sqt {K : PySem.W.Frag} {H H' : Hp} {p a : Addr} {xs ys : List V} (e : SameB p H H') (hp : H p = some (.lst ys)) (h : SqT K H a xs) : SqT K H' a xs := by
  rcases h with (h | ⟨o, h⟩) | h
  · exact .inl (.inl (e _ _ (fun z => by rw [z, hp] at h; cases h) h))
  · exact .inl (.inr ⟨o, e _ _ (fun z => by rw [z, hp] at h; cases h) h⟩)
  · exact .inr h
theorem sbl_num {K : PySem.W.Frag} {H H' : Hp} {p a : Addr} {m : Num} {B : Nat} {ys : List V} (e : SameB p H H') (hp : H p = some (.lst ys)) (h : NumAt K H a m B) : NumAt K H' a m B := by
  cases m with
  | rat n d =>
    obtain ⟨p1, h1, h2, h3⟩ := h
    exact ⟨p1, sbl_sqt e hp h1, sbl_sqt e hp h2, h3⟩
  | root c b a w =>
    obtain ⟨p1, h1, h2, h3⟩ := h
    exact ⟨p1, sbl_sqt e hp h1, sbl_sqt e hp h2, h3⟩
theorem Two.sbl {K : PySem.W.Frag} {H H' : Hp} {p pn r1 r2 : Addr} {m1 m2 : Num} {ys : List V} (h : Two K H pn r1 r2 m1 m2) (hp : H p = some (.lst ys)) (e : SameB p H H') (hne : pn ≠ p) : Two K H' pn r1 r2 m1 m2 := ⟨e _ _ hne h.lst, sbl_num e hp h.n1, sbl_num e hp h.n2, h.v1, h.v2⟩
theorem new_ne {H : Hp} {p t : Addr} (hp : Stm H p) (ht : H t = none) : t ≠ p := by
  obtain ⟨l, ns, cell, k, h1, _⟩ := hp
  intro e
  rw [e, h1] at ht
  cases ht
section
variable {P : Program} {w : World} {K : PySem.W.Frag} {mg : Str → Option Value} {base : Heap} {A : Ad}
theorem ok_law {fd : FuncData} (F : Fun K "law" "law" s_law A.law fd) (T : Txt K mg A) (Gst : Good P w K mg base CX0 1 A.law_stream ["_law_script"] (spStream K)) (Gn : Good P w K mg base CX0 1 A.law_next ["_law_stream_here", "_law_many"] spNext)
    (Gnu : Good P w K mg base CX0 4 A.law_number ["_law_stream_here"] (spNumber K)) (Glo : Good P w K mg base CX0 4 A.law_long ["_law_stream_here"] (spNumber K)) (Gto : Good P w K mg base CX0 6 A.law_told ["_law_number_here", "_law_q"] (spTold K))
    (Gii : Good P w K mg base CX0 1 A.law_is_integer ["_law_actual"] spLInt) (Gbe : Good P w K mg base CX0 1 A.law_beside ["_law_number_here", "_law_n", "_law_d"] (spBeside K)) (Gcm : Good P w K mg base CX0 5 A.compare_numbers ["first", "second"] (spCmp K))
    (Glw : Good P w K mg base CX0 2 A.law_low ["_law_n", "_law_d"] (spLLow K)) (Geq : Good P w K mg base CX0 2 A.law_equal ["_law_actual", "_law_due"] spLEqual) (Gsg : Good P w K mg base CX0 5 A.number_sign ["number"] (spNumSign K)) :
    FnOk P w K mg base CX0 7 A.law fd ["_law_script"] (spLaw K) := by
  obtain ⟨f1, G_law_stream, b_law_stream⟩ := Gst
  obtain ⟨f2, G_law_next, b_law_next⟩ := Gn
  obtain ⟨f3, G_law_number, b_law_number⟩ := Gnu
  obtain ⟨f4, G_law_long, b_law_long⟩ := Glo
  obtain ⟨f5, G_law_told, b_law_told⟩ := Gto
  obtain ⟨f6, G_law_is_integer, b_law_is_integer⟩ := Gii
  obtain ⟨f7, G_law_beside, b_law_beside⟩ := Gbe
  obtain ⟨f8, G_compare_numbers, b_compare_numbers⟩ := Gcm
  obtain ⟨f9, G_law_low, b_law_low⟩ := Glw
  obtain ⟨f10, G_law_equal, b_law_equal⟩ := Geq
  obtain ⟨f11, G_number_sign, b_number_sign⟩ := Gsg
  refine F.ok sc_law (fun vs H Q E h => ?_) (fun cdv A' outer s H vs Q E hr h => ?_)
  · obtain ⟨a, ns, rfl, _⟩ := h; rfl
  · obtain ⟨sa, ns, rfl, hS, k⟩ := h
    refine ⟨_, (pss_cons (ps_set (i := 1) sc_law.nd rfl (Or.inl rfl) (pe_call G_law_stream (hr.mono (by decide)) (by rfl) T.g_law_stream T.k_law_stream b_law_stream .nil pass0 (pa_cons (pv 0) pa_nil)))
      (pss_cons (ps_set (i := 2) sc_law.nd rfl (Or.inl rfl) (pe_lst (pa_cons (pe_call G_law_number (hr.mono (by decide)) (by rfl) T.g_law_number T.k_law_number b_law_number .nil pass0 (pa_cons (pv 1) pa_nil)) (pa_cons (pe_call G_law_number (hr.mono (by decide)) (by rfl) T.g_law_number T.k_law_number b_law_number .nil pass0 (pa_cons (pv 1) pa_nil)) pa_nil))))
      (C8.pss_cut (ps_if (pt_cmpR op_eq (pe_call G_law_next (hr.mono (by decide)) (by rfl) T.g_law_next T.k_law_next b_law_next .nil pass0 (pa_cons (pv 1) (pa_cons pe_int pa_nil))) pe_int (nomark _)) (pss_one (ps_set (i := 2) sc_law.nd rfl (Or.inl rfl) (pe_lst (pa_cons (pe_call G_law_long (hr.mono (by decide)) (by rfl) T.g_law_long T.k_law_long b_law_long .nil pass0 (pa_cons (pv 1) pa_nil)) (pa_cons (pe_ix ix_list (pv 2) pe_int (fun _ _ => rfl)) pa_nil))))) pss_nil)
      (pss_cons (ps_set (i := 3) sc_law.nd rfl (Or.inl rfl) (pe_op op_add pe_int (pe_call G_law_next (hr.mono (by decide)) (by rfl) T.g_law_next T.k_law_next b_law_next .nil pass0 (pa_cons (pv 1) (pa_cons (pe_op op_pow pe_int pe_int) pa_nil)))))
      (C8.pss_cut (ps_if (pt_cmpR op_eq (pe_call G_law_next (hr.mono (by decide)) (by rfl) T.g_law_next T.k_law_next b_law_next .nil pass0 (pa_cons (pv 1) (pa_cons pe_int pa_nil))) pe_int (nomark _)) (pss_one (ps_set (i := 3) sc_law.nd rfl (Or.inl rfl) (pe_op op_add pe_int (pe_call G_law_next (hr.mono (by decide)) (by rfl) T.g_law_next T.k_law_next b_law_next .nil pass0 (pa_cons (pv 1) (pa_cons (pe_op op_pow pe_int pe_int) pa_nil)))))) pss_nil)
      (pss_cons (ps_set (i := 4) sc_law.nd rfl (Or.inl rfl) (pe_lst pa_nil))
      (pss_cons (ps_for PassesOwn.never rfl (pi_list (pv 2)) (pg_name (i := 5) sc_law.nd rfl (Or.inl rfl)) (pss_cons (ps_set (i := 6) sc_law.nd rfl (Or.inl rfl) (pe_call G_law_told (hr.mono (by decide)) (by rfl) T.g_law_told T.k_law_told b_law_told .nil pass0 (pa_cons (pv 5) (pa_cons (pv 3) pa_nil))))
      (pss_cons (ps_if (PW.pt (pw_or (pt_not (pt_val (pe_call G_law_is_integer (hr.mono (by decide)) (by rfl) T.g_law_is_integer T.k_law_is_integer b_law_is_integer .nil pass0 (pa_cons (pv 6) pa_nil)))) (pw_or (pt_cmpR op_lt (pe_call G_law_beside (hr.mono (by decide)) (by rfl) T.g_law_beside T.k_law_beside b_law_beside .nil pass0 (pa_cons (pv 5) (pa_cons (pv 6) (pa_cons (pv 3) pa_nil)))) pe_int (nomark _)) (pw_or1 (pt_cmpR op_ge (pe_call G_law_beside (hr.mono (by decide)) (by rfl) T.g_law_beside T.k_law_beside b_law_beside .nil pass0 (pa_cons (pv 5) (pa_cons (pe_op op_add (pv 6) pe_int) (pa_cons (pv 3) pa_nil)))) pe_int (nomark _)))))) (pss_one (ps_ret pe_bl)) pss_nil)
      (pss_cons (ps_if (pt_cmpR op_ne (pe_call G_compare_numbers (hr.mono (by decide)) (by rfl) T.g_compare_numbers T.k_compare_numbers b_compare_numbers .nil pass0 (pa_cons (pv 5) (pa_cons (pe_tup (pa_cons pe_str (pa_cons (pe_call G_law_low (hr.mono (by decide)) (by rfl) T.g_law_low T.k_law_low b_law_low .nil pass0 (pa_cons (pv 6) (pa_cons (pv 3) pa_nil))) pa_nil))) pa_nil))) (pe_call G_law_beside (hr.mono (by decide)) (by rfl) T.g_law_beside T.k_law_beside b_law_beside .nil pass0 (pa_cons (pv 5) (pa_cons (pv 6) (pa_cons (pv 3) pa_nil)))) (nomark _)) (pss_one (ps_ret pe_bl)) pss_nil)
      (pss_cons (ps_if (pt_not (pt_val (pe_call G_law_equal (hr.mono (by decide)) (by rfl) T.g_law_equal T.k_law_equal b_law_equal .nil pass0 (pa_cons (pe_call G_number_sign (hr.mono (by decide)) (by rfl) T.g_number_sign T.k_number_sign b_number_sign .nil pass0 (pa_cons (pv 5) pa_nil)) (pa_cons (pe_call G_law_beside (hr.mono (by decide)) (by rfl) T.g_law_beside T.k_law_beside b_law_beside .nil pass0 (pa_cons (pv 5) (pa_cons pe_int (pa_cons pe_int pa_nil)))) pa_nil))))) (pss_one (ps_ret pe_bl)) pss_nil)
      (pss_one (ps_expr (pe_bm PySem.F.plainAttrs_list PySem.F.slot_list_append PySem.F.type_list_append mt_append (pv 4) (pa_cons (pv 6) pa_nil)))))))))
      (C8.pss_cut (ps_if (PW.pt (pw_and (pt_cmpR op_ne (pe_ix ix_list (pv 4) pe_int (fun _ _ => rfl)) (pe_ix ix_list (pv 4) pe_int (fun _ _ => rfl)) (nomark _)) (pw_and1 (pt_cmpR op_ne (pe_call G_compare_numbers (hr.mono (by decide)) (by rfl) T.g_compare_numbers T.k_compare_numbers b_compare_numbers .nil pass0 (pa_cons (pe_ix ix_list (pv 2) pe_int (fun _ _ => rfl)) (pa_cons (pe_ix ix_list (pv 2) pe_int (fun _ _ => rfl)) pa_nil))) (pe_op op_sub pe_int (pe_op op_mulW pe_int (pe_callTy call_int1 (by rfl) T.n_int (by decide +kernel) (pa_cons (pe_cmpR op_lt (pe_ix ix_list (pv 4) pe_int (fun _ _ => rfl)) (pe_ix ix_list (pv 4) pe_int (fun _ _ => rfl)) (nomark _)) pa_nil)))) (nomark _))))) (pss_one (ps_ret pe_bl)) pss_nil)
      (pss_cons (ps_set (i := 7) sc_law.nd rfl (Or.inl rfl) (pe_ix ix_list (pe_lst (pa_cons pe_int (pa_cons (pe_un un_neg pe_int) (pa_cons pe_non (pa_cons pe_bl (pa_cons (pe_tup (pa_cons pe_int (pa_cons pe_int pa_nil))) pa_nil)))))) (pe_call G_law_next (hr.mono (by decide)) (by rfl) T.g_law_next T.k_law_next b_law_next .nil pass0 (pa_cons (pv 1) (pa_cons pe_int pa_nil))) (fun _ _ => rfl)))
      (pss_one (ps_ret (pe_and (pe_cmpR op_eq (pe_call G_law_told (hr.mono (by decide)) (by rfl) T.g_law_told T.k_law_told b_law_told .nil pass0 (pa_cons (pe_ix ix_list (pv 2) pe_int (fun _ _ => rfl)) (pa_cons (pv 7) pa_nil))) pe_str (nomark _)) (pe_one (pe_cmpR op_eq (pe_call G_law_told (hr.mono (by decide)) (by rfl) T.g_law_told T.k_law_told b_law_told .nil pass0 (pa_cons pe_non (pa_cons (pv 7) pa_nil))) pe_str (nomark _))))))))))))))), ?_⟩
    have l50 : ∀ {n : Int}, n.natAbs < 2 ^ 101 → n.natAbs < 2 ^ 8000 := fun h => lt_up h (by decide)
    -- stream, numbers
    refine ⟨_, rfl, sa, ns, rfl, hS, fun H1 p _ p1 => ?_⟩
    refine ⟨_, rfl, p, rfl, p1, fun H2 r1 m1 s2 p2 n1 v1 => ⟨_, rfl, p, rfl, p2, fun H3 r2 m2 s3 p3 n2 v2 => ⟨two_le, fun pn hpn => ?_⟩⟩⟩
    have n1' := sb_num s3 p2 n1
    have tw : Two K (upd H3 pn (.lst [.ref r1, .ref r2])) pn r1 r2 m1 m2 := ⟨upd_same, n1'.same (Same.new hpn), n2.same (Same.new hpn), v1, v2⟩
    have p4 := p3.same (Same.new (o := .lst [.ref r1, .ref r2]) hpn)
    have pne := new_ne p3 hpn
    generalize upd H3 pn (.lst [.ref r1, .ref r2]) = H4 at *
    -- if next(3) == 1
    refine ⟨fun σ' H' => ∃ (pn r1 r2 : Addr) (m1 m2 : Num), σ' = [some (.ref sa), some (.ref p), some (.ref pn), none, none, none, none, none] ∧ pn ≠ p ∧ Stm H' p ∧ Two K H' pn r1 r2 m1 m2, ?_, ?_⟩
    · refine ⟨_, rfl, p, 3, rfl, p4, by decide, l50 (by decide), fun H5 d s5 p5 d0 d1 => ⟨rfl, _, rfl, ite2 (fun _ => ?_) (fun _ => ?_)⟩⟩
      · have tw5 := tw.sb p4 s5 pne
        refine ⟨_, rfl, p, rfl, p5, fun H6 r m s6 p6 n6 v6 => ?_⟩
        have tw6 := tw5.sb p5 s6 pne
        refine ⟨_, rfl, pn, _, _, _, rfl, rfl, SqL.of tw6.lst, rfl, two_le, fun t ht => ?_⟩
        exact ⟨t, r, r1, m, m1, rfl, new_ne p6 ht, p6.same (Same.new ht), upd_same, n6.same (Same.new ht), tw6.n1.same (Same.new ht), v6, v1⟩
      · exact ⟨pn, r1, r2, m1, m2, rfl, pne, p5, tw.sb p4 s5 pne⟩
    · clear tw pne p4 n1' n2 v1 v2 n1 hpn
      rintro σ' H5 ⟨pn, r1, r2, m1, m2, rfl, pne, p5, tw⟩
      refine ⟨_, rfl, _, _, rfl, rfl, ⟨by decide, by decide, by decide⟩, p, 10 ^ 6, rfl, p5, by decide, l50 (by decide), fun H6 q s6 p6 q0 q1 => ⟨_, _, rfl, rfl, ?_⟩⟩
      have tw6 := tw.sb p5 s6 pne
      -- if next(4) == 1
      refine ⟨fun σ' H' => ∃ q : Int, 1 ≤ q ∧ q.natAbs < 2 ^ 100 ∧ σ' = [some (.ref sa), some (.ref p), some (.ref pn), some (.int q), none, none, none, none] ∧ Stm H' p ∧ Two K H' pn r1 r2 m1 m2, ?_, ?_⟩
      · refine ⟨_, rfl, p, 4, rfl, p6, by decide, l50 (by decide), fun H7 d s7 p7 d0 d1 => ⟨rfl, _, rfl, ite2 (fun _ => ?_) (fun _ => ?_)⟩⟩
        · have tw7 := tw6.sb p6 s7 pne
          refine ⟨_, rfl, _, _, rfl, rfl, ⟨by decide, by decide, by decide⟩, p, 10 ^ 30, rfl, p7, by decide, l50 (by decide), fun H8 q s8 p8 q0 q1 => ⟨_, _, rfl, rfl, ?_⟩⟩
          exact ⟨1 + q, by omega, by omega, rfl, p8, tw7.sb p7 s8 pne⟩
        · exact ⟨1 + q, by omega, by omega, rfl, p7, tw6.sb p6 s7 pne⟩
      · clear tw tw6 q0 q1 s6 p6 p5
        rintro σ' H7 ⟨q, hq1, hqB, rfl, p7, tw7⟩
        refine ⟨Nat.zero_le _, fun fl hfl => ?_⟩
        have fne := new_ne p7 hfl
        have tw8 := tw7.same (Same.new (o := .lst []) hfl)
        have p8 := p7.same (Same.new (o := .lst []) hfl)
        have fpn : fl ≠ pn := fun z => by rw [z, tw7.lst] at hfl; cases hfl
        have lf8 : (upd H7 fl (.lst [])) fl = some (.lst (([] : List Int).map V.int)) := upd_same
        obtain ⟨l, ns8, cell8, k8, st1, st2, st3, st4, st5⟩ := id p8
        have fll : l ≠ fl := fun z => by
          obtain ⟨l', ns', cell', k', q1, q2, _⟩ := p7
          have q3 : (upd H7 fl (.lst [])) p = some (.lst [.ref l', .int cell', .int k']) := by rw [upd_ne (Ne.symm fne)]; exact q1
          rw [st1] at q3
          cases q3
          rw [z, hfl] at q2
          cases q2
        generalize upd H7 fl (.lst []) = H8 at *
        have stm : ∀ H', SameB fl H8 H' → Stm H' p := fun H' e => ⟨l, ns8, cell8, k8, e _ _ (Ne.symm fne) st1, e _ _ fll st2, st3, st4, st5⟩
        have two : ∀ H', SameB fl H8 H' → Two K H' pn r1 r2 m1 m2 := fun H' e => tw8.sbl lf8 e (Ne.symm fpn)
        -- the loop over the two numbers
        refine ⟨_, rfl, pn, rfl, ⟨_, SqL.of tw8.lst⟩, for_list (K := K) (a := pn) (xs := [.ref r1, .ref r2]) (fun i σ H' => ∃ (xs : List Int) (v5 v6 : Option V), σ = [some (.ref sa), some (.ref p), some (.ref pn), some (.int q), some (.ref fl), v5, v6, none] ∧
            SameB fl H8 H' ∧ H' fl = some (.lst (xs.map V.int)) ∧ xs.length = i ∧ ∀ (j : Nat) x m, xs[j]? = some x → [m1, m2][j]? = some m → Fl m q x) ?_ ?_ ?_ ?_⟩
        · exact ⟨[], none, none, rfl, SameB.refl _ _, lf8, rfl, fun j x m h => by simp at h⟩
        · rintro i σ H' _ ⟨xs, v5, v6, rfl, e, _⟩
          exact SqL.of (two H' e).lst
        · rintro i x σ H9 hx ⟨xs, v5, v6, rfl, sb9, lf9, hl, hF⟩
          have tw9 := two H9 sb9
          obtain ⟨r, m, rfl, hm, hv, hmi⟩ : ∃ (r : Addr) (m : Num), x = .ref r ∧ NumAt K H9 r m 40 ∧ m.Valid ∧ [m1, m2][i]? = some m := by
            match i, hx with
            | 0, hx => exact ⟨r1, m1, (Option.some.inj hx).symm, tw9.n1, tw9.v1, rfl⟩
            | 1, hx => exact ⟨r2, m2, (Option.some.inj hx).symm, tw9.n2, tw9.v2, rfl⟩
          have hi2 : i < 2 := (List.getElem?_eq_some_iff.mp hx).1
          have hm150 := hm.up (show 40 ≤ 150 by decide)
          have hq150 : q.natAbs < 2 ^ 150 := lt_up hqB (by decide)
          -- m = told(number, q)
          refine ⟨_, rfl, _, rfl, _, _, rfl, .inr ⟨r, m, 150, rfl, hm150, hv, by decide, by decide, .inr ⟨q, rfl, hq1, hq150, fun H10 z e10 hz => ?_⟩⟩⟩
          have hlt := flo_lt hm hv hqB hz
          obtain ⟨F0, F1⟩ := fl_ok hv hq1 hz
          generalize m.flo q z = y at *
          have ly : y.natAbs < 2 ^ 150 := lt_up hlt (by decide)
          have ly1 : (y + 1).natAbs < 2 ^ 150 := by
            have : (2 : Nat) ^ 150 = 2 ^ 149 * 2 := Nat.pow_succ 2 149
            omega
          have hm10 := hm150.same e10
          -- the first if
          refine ⟨_, rfl, y, rfl, _, rfl, iteF ⟨_, rfl, _, rfl, _, rfl, r, m, y, q, 150, rfl, hm10, ly, hq150, by decide, by decide, _, _, rfl, rfl, _, rfl, iteBF (decide_eq_false (by omega)) ⟨_, rfl, _, rfl, _, _, rfl, rfl, _, rfl, r, m, y + 1, q, 150, rfl, hm10, ly1, hq150, by decide, by decide, _, _, rfl, rfl, _, rfl, iteBF (decide_eq_false (by omega)) ?_⟩⟩⟩
          -- compare_numbers(number, ("rational", low(m, q))) != beside(number, m, q)
          refine ⟨_, rfl, _, rfl, _, rfl, y, q, 150, rfl, by omega, ly, hq150, by decide, by decide, fun H11 t e11 ht => ⟨two_le, fun u hu => ?_⟩⟩
          obtain ⟨g1, g2, _, _, g5⟩ := gc_low (n := y) (show 0 < q by omega)
          have hm12 := (hm10.same e11).same (Same.new (o := .tup [.str "rational", .ref t]) hu)
          refine ⟨r, u, m, .rat (y / gc y q) (q / gc y q), 150, rfl, hm12, hv, ⟨t, sqt_new, (Same.new hu).sqt ht, div_lt g5 ly, div_lt g5 hq150⟩, ⟨g1, g2⟩, by decide, by decide, fun H13 e13 => ?_⟩
          have e12 := (e10.trans e11).trans (Same.new (o := .tup [.str "rational", .ref t]) hu)
          have e9_13 := e12.trans e13
          have hm13 := hm12.same e13
          rw [cmp_low hv (show 0 < q by omega)]
          refine ⟨_, rfl, _, rfl, _, rfl, r, m, y, q, 150, rfl, hm13, ly, hq150, by decide, by decide, rfl, _, rfl, iteNS rfl ?_⟩
          -- if not equal(number_sign(number), beside(number, 0, 1))
          refine ⟨_, rfl, r, m, 150, rfl, hm13, hv, by decide, by decide, fun H14 e14 => ⟨_, rfl, r, m, 0, 1, 150, rfl, hm13.same e14, by decide, by decide, by decide, by decide, _, _, rfl, _, rfl, ?_⟩⟩
          rw [decide_eq_true rfl]
          refine iteF ?_
          -- floors.append(m)
          have e9_14 := e9_13.trans e14
          refine ⟨_, rfl, .inl ⟨rfl, _, SqL.of (e9_14 _ _ lf9)⟩, _, rfl, fl, _, _, rfl, rfl, e9_14 _ _ lf9, by rw [List.length_map]; exact small1000 (by omega), ?_⟩
          refine ⟨xs ++ [y], _, _, rfl, (sb9.trans (e9_14.sb fl)).trans SameB.upd, by rw [upd_same, List.map_append]; rfl, by rw [List.length_append, hl]; rfl, fun j x' m' hj hm' => ?_⟩
          by_cases hji : j < xs.length
          · rw [List.getElem?_append_left hji] at hj
            exact hF j x' m' hj hm'
          · have hj2 : j = i := by
              have := (List.getElem?_eq_some_iff.mp hj).1
              rw [List.length_append] at this
              simp at this
              omega
            subst hj2
            rw [List.getElem?_append_right (by omega), hl, Nat.sub_self] at hj
            cases hj
            rw [hmi] at hm'
            cases hm'
            exact ⟨F0, F1⟩
        · rintro σ H9 ⟨xs, v5, v6, rfl, sb9, lf9, hl, hF⟩
          have tw9 := two H9 sb9
          have p9 := stm H9 sb9
          obtain ⟨x1, x2, rfl⟩ : ∃ x1 x2, xs = [x1, x2] := by
            match xs, hl with
            | [a, b], _ => exact ⟨a, b, rfl⟩
          have hF1 := hF 0 x1 m1 rfl rfl
          have hF2 := hF 1 x2 m2 rfl rfl
          obtain ⟨less, more⟩ := cmp_floor tw9.v1 tw9.v2 (show 0 < q by omega) hF1.1 hF1.2 hF2.1 hF2.2
          -- if floors[0] != floors[1] and compare_numbers(..) != ..
          refine ⟨fun σ' H' => σ' = [some (.ref sa), some (.ref p), some (.ref pn), some (.int q), some (.ref fl), v5, v6, none] ∧ Stm H' p ∧ Two K H' pn r1 r2 m1 m2, ?_, ?_⟩
          · refine ⟨_, rfl, fl, _, _, _, rfl, rfl, SqL.of lf9, rfl, _, rfl, fl, _, _, _, rfl, rfl, SqL.of lf9, rfl, rfl, _, rfl, ite2 (fun h => ?_) (fun _ => ⟨rfl, p9, tw9⟩)⟩
            have hne : x1 ≠ x2 := fun z => by rw [z, decide_eq_true rfl] at h; cases h
            refine ⟨_, rfl, pn, _, _, _, rfl, rfl, SqL.of tw9.lst, rfl, _, rfl, pn, _, _, _, rfl, rfl, SqL.of tw9.lst, rfl, r1, r2, m1, m2, 40, rfl, tw9.n1, tw9.v1, tw9.n2, tw9.v2, by decide, by decide, fun H10 e10 => ?_⟩
            have lf10 := e10 _ _ lf9
            refine ⟨_, rfl, fl, _, _, _, rfl, rfl, SqL.of lf10, rfl, _, rfl, fl, _, _, _, rfl, rfl, SqL.of lf10, rfl, _, _, rfl, rfl, .inr ⟨_, rfl, _, _, rfl, rfl, ?_, _, _, rfl, rfl, rfl, _, rfl, ?_⟩⟩
            · by_cases hx : x1 < x2
              · rw [decide_eq_true hx]; exact cmul (a := 2) (b := 2) (by decide) (by decide) (by decide) (by decide) (by decide)
              · rw [decide_eq_false hx]; exact cmul (a := 2) (b := 2) (by decide) (by decide) (by decide) (by decide) (by decide)
            · have e : cmp m1 m2 = 1 - 2 * (if decide (x1 < x2) = true then (1 : Int) else 0) := by
                by_cases hx : x1 < x2
                · rw [less hx, decide_eq_true hx]; rfl
                · rw [more (by omega), decide_eq_false hx]; rfl
              refine iteNS (by rw [e]) ⟨rfl, p9.same e10, tw9.same e10⟩
          · rintro σ' H10 ⟨rfl, p10, tw10⟩
            -- wrong = [0, -1, None, True, (1, 1)][next(5)]
            refine ⟨_, rfl, two_le, fun t ht => ⟨(by show 5 ≤ sizeLine; decide), fun lw hlw => ?_⟩⟩
            have e12 := (Same.new (o := .tup [.int 1, .int 1]) ht).trans (Same.new (o := .lst [.int 0, .int (-1), .non, .bl true, .ref t]) hlw)
            have p12 := p10.same e12
            have tw12 := tw10.same e12
            have lne := new_ne (p10.same (Same.new (o := .tup [.int 1, .int 1]) ht)) hlw
            have ht12 := (Same.new (o := .lst [.int 0, .int (-1), .non, .bl true, .ref t]) hlw).sqt (K := K) (sqt_new (K := K) (H := H10) (p := t) (xs := [.int 1, .int 1]))
            refine ⟨_, rfl, p, 5, rfl, p12, by decide, l50 (by decide), fun H13 d s13 p13 d0 d1 => ?_⟩
            have tw13 := tw12.sb p12 s13 pne
            have ht13 := sb_sqt s13 p12 ht12
            have hl13 : H13 lw = some (.lst [.int 0, .int (-1), .non, .bl true, .ref t]) := s13 _ _ lne upd_same
            obtain ⟨v, hv, hno⟩ : ∃ v, atI [V.int 0, V.int (-1), V.non, V.bl true, V.ref t] d = some v ∧ NoQ K H13 v := by
              have hd : d = 0 ∨ d = 1 ∨ d = 2 ∨ d = 3 ∨ d = 4 := by omega
              rcases hd with rfl | rfl | rfl | rfl | rfl
              · exact ⟨_, rfl, .inl ⟨0, rfl, by decide⟩⟩
              · exact ⟨_, rfl, .inl ⟨-1, rfl, by decide⟩⟩
              · exact ⟨_, rfl, .inr (.inl rfl)⟩
              · exact ⟨_, rfl, .inr (.inr (.inl ⟨_, rfl⟩))⟩
              · exact ⟨_, rfl, .inr (.inr (.inr ⟨t, _, rfl, ht13⟩))⟩
            refine ⟨lw, _, d, v, rfl, rfl, SqL.of hl13, hv, ?_⟩
            refine ⟨_, rfl, pn, _, _, _, rfl, rfl, SqL.of tw13.lst, rfl, _, rfl, _, _, rfl, .inr ⟨r1, m1, 40, rfl, tw13.n1, tw13.v1, by decide, by decide, .inl ⟨hno, fun H14 e14 => ⟨rfl, _, rfl, iteB (by decide +kernel) ⟨_, rfl, _, _, rfl, .inl ⟨rfl, fun H15 e15 => ⟨rfl, ?_⟩⟩⟩⟩⟩⟩⟩
            have e : decide (V.str "number" = V.str "number") = true := by decide +kernel
            show Q (.bl (decide (V.str "number" = V.str "number"))) H15
            rw [e]
            exact k H15
end
end K12

set_option maxHeartbeats 4000000
namespace K12
open PySem PySem.Spec PyProof.Rows L2
/-- every def of the text stands -/
structure Defs (K : PySem.W.Frag) (A : Ad) : Prop where
  d_is_integer : IsF K "is_integer" "is_integer" s_is_integer A.is_integer
  d_is_rational : IsF K "is_rational" "is_rational" s_is_rational A.is_rational
  d_reduced : IsF K "reduced" "reduced" s_reduced A.reduced
  d_ratio : IsF K "ratio" "ratio" s_ratio A.ratio
  d_plus : IsF K "plus" "plus" s_plus A.plus
  d_minus : IsF K "minus" "minus" s_minus A.minus
  d_times : IsF K "times" "times" s_times A.times
  d_sign : IsF K "sign" "sign" s_sign A.sign
  d_is_square : IsF K "is_square" "is_square" s_is_square A.is_square
  d_is_root : IsF K "is_root" "is_root" s_is_root A.is_root
  d_is_number : IsF K "is_number" "is_number" s_is_number A.is_number
  d_check_number : IsF K "check_number" "check_number" s_check_number A.check_number
  d_parts_of : IsF K "parts_of" "parts_of" s_parts_of A.parts_of
  d_square_sign : IsF K "square_sign" "square_sign" s_square_sign A.square_sign
  d_two_roots_sign : IsF K "two_roots_sign" "two_roots_sign" s_two_roots_sign A.two_roots_sign
  d_total_sign : IsF K "total_sign" "total_sign" s_total_sign A.total_sign
  d_number_sign : IsF K "number_sign" "number_sign" s_number_sign A.number_sign
  d_compare_numbers : IsF K "compare_numbers" "compare_numbers" s_compare_numbers A.compare_numbers
  d_floor_of : IsF K "floor_of" "floor_of" s_floor_of A.floor_of
  d_law_stream : IsF K "_law_stream" "_law_stream" s_law_stream A.law_stream
  d_law_next : IsF K "_law_next" "_law_next" s_law_next A.law_next
  d_law_is_integer : IsF K "_law_is_integer" "_law_is_integer" s_law_is_integer A.law_is_integer
  d_law_gcd : IsF K "_law_gcd" "_law_gcd" s_law_gcd A.law_gcd
  d_law_low : IsF K "_law_low" "_law_low" s_law_low A.law_low
  d_law_ratio : IsF K "_law_ratio" "_law_ratio" s_law_ratio A.law_ratio
  d_law_equal : IsF K "_law_equal" "_law_equal" s_law_equal A.law_equal
  d_law_root : IsF K "_law_root" "_law_root" s_law_root A.law_root
  d_law_is_square : IsF K "_law_is_square" "_law_is_square" s_law_is_square A.law_is_square
  d_law_number : IsF K "_law_number" "_law_number" s_law_number A.law_number
  d_law_beside : IsF K "_law_beside" "_law_beside" s_law_beside A.law_beside
  d_law_told : IsF K "_law_told" "_law_told" s_law_told A.law_told
  d_law_long : IsF K "_law_long" "_law_long" s_law_long A.law_long
  d_init : IsF K "__init__" "BadValue.__init__" s_init A.init
theorem law_all {P : Program} {w : World} {K : PySem.W.Frag} {mg : Str → Option Value} {base : Heap} {A : Ad} {fd : FuncData} (F : Fun K "law" "law" s_law A.law fd) (D : Defs K A) (T : Txt K mg A) :
    FnOk P w K mg base CX0 7 A.law fd ["_law_script"] (spLaw K) := by
  have g_law_stream := good_law_stream (P := P) (w := w) (base := base) D.d_law_stream T
  have g_law_next := good_law_next (P := P) (w := w) (base := base) D.d_law_next T
  have g_law_gcd := good_law_gcd (P := P) (w := w) (base := base) D.d_law_gcd T
  have g_law_low := good_law_low (P := P) (w := w) (base := base) D.d_law_low T g_law_gcd
  have g_law_ratio := good_law_ratio (P := P) (w := w) (base := base) D.d_law_ratio T g_law_next g_law_low
  have g_law_root := good_law_root (P := P) (w := w) (base := base) D.d_law_root T
  have g_law_is_square := good_law_is_square (P := P) (w := w) (base := base) D.d_law_is_square T g_law_root
  have g_law_number := good_law_number (P := P) (w := w) (base := base) D.d_law_number T g_law_next g_law_ratio g_law_gcd g_law_is_square
  have g_law_long := good_law_long (P := P) (w := w) (base := base) D.d_law_long T g_law_next g_law_low g_law_gcd g_law_is_square
  have g_is_integer := good_is_integer (P := P) (w := w) (base := base) D.d_is_integer T
  have g_is_rational := good_is_rational (P := P) (w := w) (base := base) D.d_is_rational T g_is_integer
  have g_is_square := good_is_square (P := P) (w := w) (base := base) D.d_is_square T
  have g_is_root := good_is_root (P := P) (w := w) (base := base) D.d_is_root T g_is_integer g_is_square
  have g_is_number := good_is_number (P := P) (w := w) (base := base) D.d_is_number T g_is_rational g_is_root
  have g_init := good_init (P := P) (w := w) (base := base) D.d_init T
  have g_check_number := good_check_number (P := P) (w := w) (base := base) D.d_check_number T g_is_number g_init
  have g_floor_of := good_floor_of (P := P) (w := w) (base := base) D.d_floor_of T g_check_number g_is_integer g_init
  have g_law_told := good_law_told (P := P) (w := w) (base := base) D.d_law_told T g_floor_of
  have g_law_is_integer := good_law_is_integer (P := P) (w := w) (base := base) D.d_law_is_integer T
  have g_law_beside := good_law_beside (P := P) (w := w) (base := base) D.d_law_beside T
  have g_reduced := good_reduced (P := P) (w := w) (base := base) D.d_reduced T
  have g_ratio := good_ratio (P := P) (w := w) (base := base) D.d_ratio T g_reduced
  have g_parts_of := good_parts_of (P := P) (w := w) (base := base) D.d_parts_of T g_ratio
  have g_minus := good_minus (P := P) (w := w) (base := base) D.d_minus T g_reduced
  have g_sign := good_sign (P := P) (w := w) (base := base) D.d_sign T
  have g_times := good_times (P := P) (w := w) (base := base) D.d_times T g_reduced
  have g_plus := good_plus (P := P) (w := w) (base := base) D.d_plus T g_reduced
  have g_two_roots_sign := good_two_roots_sign (P := P) (w := w) (base := base) D.d_two_roots_sign T g_sign g_times g_minus
  have g_square_sign := good_square_sign (P := P) (w := w) (base := base) D.d_square_sign T g_sign g_times g_minus
  have g_total_sign := good_total_sign (P := P) (w := w) (base := base) D.d_total_sign T g_sign g_times g_minus g_plus g_two_roots_sign g_square_sign
  have g_compare_numbers := good_compare_numbers (P := P) (w := w) (base := base) D.d_compare_numbers T g_check_number g_parts_of g_minus g_total_sign
  have g_law_equal := good_law_equal (P := P) (w := w) (base := base) D.d_law_equal T g_law_is_integer
  have g_number_sign := good_number_sign (P := P) (w := w) (base := base) D.d_number_sign T g_check_number g_parts_of g_square_sign
  exact ok_law F T g_law_stream g_law_next g_law_number g_law_long g_law_told g_law_is_integer g_law_beside g_compare_numbers g_law_low g_law_equal g_number_sign
theorem mk_isF {K : PySem.W.Frag} {x qual : Str} {st : Stmt} {f : Addr} {oc : Value} {od an : Option Addr} {osl : Array (Option Value)} {kV doc pm cdv ct : Value} (l : K.lookup f = some ⟨oc, od, .func (PySem.W.fnOf x qual (defArgs st) (defBody st) (defScope st) .none kV doc pm an cdv ct), osl⟩)
    (c : PySem.W.codeIn K cdv qual = true) (k : PySem.W.keepIn K (.ref f) = true) : IsF K x qual st f := ⟨_, fun_mk l c k⟩
theorem own_exm {K : PySem.W.Frag} {S : Addr} (h1 : PySem.W.subIn K (.ref S) (.type "BaseException") = some true) (h2 : PySem.W.isClsIn K S = true) (h3 : PySem.W.typeIn K (.ref S) = some (.type "type")) (h4 : PySem.W.subIn K (.ref S) (.ref S) = some true) : PySem.W.exmOne K (.ref S) (.ref S) = some true := by
  have q1 : (PySem.W.subIn K (.ref S) (.type "BaseException") == some true) = true := by rw [h1]; exact beq_self_eq_true _
  have q2 : ((PySem.W.clsIn K S).isSome && PySem.W.typeIn K (.ref S) == some (.type "type")) = true := Bool.and_eq_true_iff.mpr ⟨h2, by rw [h3]; exact beq_self_eq_true _⟩
  have q3 : PySem.W.kitCls K (.ref S) (.ref S) = some true := (if_pos q2).trans h4
  exact (if_pos q1).trans q3
theorem all_mk {P : Program} {w : World} {K : PySem.W.Frag} {h : Heap} {mg : Str → Option Value} {fa : Addr} (X : K.In h) (G : h.Ns mainGlobals mg) (hfa : mg "law" = some (.ref fa))
    {f_is_integer f_is_rational f_reduced f_ratio f_plus f_minus f_times f_sign f_is_square f_is_root f_is_number f_check_number f_parts_of f_square_sign f_two_roots_sign f_total_sign f_number_sign f_compare_numbers f_floor_of f_law_stream f_law_next f_law_is_integer f_law_gcd f_law_low f_law_ratio f_law_equal f_law_root f_law_is_square f_law_number f_law_beside f_law_told f_law_long f_law f_init f_C f_Z : Addr}
    {od_is_integer an_is_integer od_is_rational an_is_rational od_reduced an_reduced od_ratio an_ratio od_plus an_plus od_minus an_minus od_times an_times od_sign an_sign od_is_square an_is_square od_is_root an_is_root od_is_number an_is_number od_check_number an_check_number od_parts_of an_parts_of od_square_sign an_square_sign od_two_roots_sign an_two_roots_sign od_total_sign an_total_sign od_number_sign an_number_sign od_compare_numbers an_compare_numbers od_floor_of an_floor_of od_law_stream an_law_stream od_law_next an_law_next od_law_is_integer an_law_is_integer od_law_gcd an_law_gcd od_law_low an_law_low od_law_ratio an_law_ratio od_law_equal an_law_equal od_law_root an_law_root od_law_is_square an_law_is_square od_law_number an_law_number od_law_beside an_law_beside od_law_told an_law_told od_law_long an_law_long od_law an_law od_init an_init : Option Addr} {sl_is_integer sl_is_rational sl_reduced sl_ratio sl_plus sl_minus sl_times sl_sign sl_is_square sl_is_root sl_is_number sl_check_number sl_parts_of sl_square_sign sl_two_roots_sign sl_total_sign sl_number_sign sl_compare_numbers sl_floor_of sl_law_stream sl_law_next sl_law_is_integer sl_law_gcd sl_law_low sl_law_ratio sl_law_equal sl_law_root sl_law_is_square sl_law_number sl_law_beside sl_law_told sl_law_long sl_law sl_init : Array (Option Value)}
    {oc_is_integer kV_is_integer dc_is_integer pm_is_integer cd_is_integer ct_is_integer oc_is_rational kV_is_rational dc_is_rational pm_is_rational cd_is_rational ct_is_rational oc_reduced kV_reduced dc_reduced pm_reduced cd_reduced ct_reduced oc_ratio kV_ratio dc_ratio pm_ratio cd_ratio ct_ratio oc_plus kV_plus dc_plus pm_plus cd_plus ct_plus oc_minus kV_minus dc_minus pm_minus cd_minus ct_minus oc_times kV_times dc_times pm_times cd_times ct_times oc_sign kV_sign dc_sign pm_sign cd_sign ct_sign oc_is_square kV_is_square dc_is_square pm_is_square cd_is_square ct_is_square oc_is_root kV_is_root dc_is_root pm_is_root cd_is_root ct_is_root oc_is_number kV_is_number dc_is_number pm_is_number cd_is_number ct_is_number oc_check_number kV_check_number dc_check_number pm_check_number cd_check_number ct_check_number oc_parts_of kV_parts_of dc_parts_of pm_parts_of cd_parts_of ct_parts_of oc_square_sign kV_square_sign dc_square_sign pm_square_sign cd_square_sign ct_square_sign oc_two_roots_sign kV_two_roots_sign dc_two_roots_sign pm_two_roots_sign cd_two_roots_sign ct_two_roots_sign oc_total_sign kV_total_sign dc_total_sign pm_total_sign cd_total_sign ct_total_sign oc_number_sign kV_number_sign dc_number_sign pm_number_sign cd_number_sign ct_number_sign oc_compare_numbers kV_compare_numbers dc_compare_numbers pm_compare_numbers cd_compare_numbers ct_compare_numbers oc_floor_of kV_floor_of dc_floor_of pm_floor_of cd_floor_of ct_floor_of oc_law_stream kV_law_stream dc_law_stream pm_law_stream cd_law_stream ct_law_stream oc_law_next kV_law_next dc_law_next pm_law_next cd_law_next ct_law_next oc_law_is_integer kV_law_is_integer dc_law_is_integer pm_law_is_integer cd_law_is_integer ct_law_is_integer oc_law_gcd kV_law_gcd dc_law_gcd pm_law_gcd cd_law_gcd ct_law_gcd oc_law_low kV_law_low dc_law_low pm_law_low cd_law_low ct_law_low oc_law_ratio kV_law_ratio dc_law_ratio pm_law_ratio cd_law_ratio ct_law_ratio oc_law_equal kV_law_equal dc_law_equal pm_law_equal cd_law_equal ct_law_equal oc_law_root kV_law_root dc_law_root pm_law_root cd_law_root ct_law_root oc_law_is_square kV_law_is_square dc_law_is_square pm_law_is_square cd_law_is_square ct_law_is_square oc_law_number kV_law_number dc_law_number pm_law_number cd_law_number ct_law_number oc_law_beside kV_law_beside dc_law_beside pm_law_beside cd_law_beside ct_law_beside oc_law_told kV_law_told dc_law_told pm_law_told cd_law_told ct_law_told oc_law_long kV_law_long dc_law_long pm_law_long cd_law_long ct_law_long oc_law kV_law dc_law pm_law cd_law ct_law oc_init kV_init dc_init pm_init cd_init ct_init : Value}
    {nmC qC : Str} {NC : Addr} {bsC bmC : List Value} {snC : List Str} {subC : List Value} {abC : Bool} {colC : Option Bool} {ddC : Option Addr} {m0 m1 m2 m3 m5 : Option Value} {dZ : Option Addr} {t0 t1 : Tok} {nZ : Nat} {slZ : Array (Option Value)}
    (aC : PySem.W.nsIn K mainGlobals "BadValue" = some (some (.ref f_C)))
    (xC : K.lookup f_C = some (excClassObj nmC qC f_C NC bsC bmC true snC subC abC colC ddC m0 m1 m2 m3 m5 "ValueError.__new__"))
    (hC : PySem.HandSPX.refsVE bmC = true)
    (sa : PySem.W.findIn K (.ref f_C) "__setattr__" = some (some (.builtin "object.__setattr__")))
    (ga : PySem.W.findIn K (.ref f_C) "__getattribute__" = some (some (.builtin "BaseException.__getattribute__")))
    (gg : PySem.W.findIn K (.ref f_C) "__getattr__" = some none)
    (nb : PySem.W.findIn K (.ref f_C) "name" = some none)
    (a_init : PySem.W.findIn K (.ref f_C) "__init__" = some (some (.ref f_init)))
    (l_init : K.lookup f_init = some ⟨oc_init, od_init, .func (PySem.W.fnOf "__init__" "BadValue.__init__" (defArgs s_init) (defBody s_init) (defScope s_init) .none kV_init dc_init pm_init an_init cd_init ct_init), sl_init⟩)
    (c_init : PySem.W.codeIn K cd_init "BadValue.__init__" = true)
    (k_init : PySem.W.keepIn K (.ref f_init) = true)
    (ti : PySem.W.typeIn K (.ref f_init) = some (.type "function"))
    (kC : PySem.W.keepIn K (.ref f_C) = true)
    (eC : PySem.W.subIn K (.ref f_C) (.type "BaseException") = some true)
    (tC : PySem.W.typeIn K (.ref f_C) = some (.type "type"))
    (dC : PySem.W.hasDictIn K f_C = true)
    (iC : PySem.W.isClsIn K f_C = true)
    (sC : PySem.W.subIn K (.ref f_C) (.ref f_C) = some true)
    (aZ : PySem.W.nsIn K mainGlobals "ZERO" = some (some (.ref f_Z)))
    (lZ : K.lookup f_Z = some ⟨.type "tuple", dZ, .seq #[.int 0 t0, .int 1 t1] nZ, slZ⟩)
    (aG : PySem.W.nsIn K mainGlobals "gcd" = some (some (.builtin "math.gcd")))
    (aI : PySem.W.nsIn K mainGlobals "isqrt" = some (some (.builtin "math.isqrt")))
    (z_isinstance : PySem.W.nsIn K mainGlobals "isinstance" = some none)
    (z_len : PySem.W.nsIn K mainGlobals "len" = some none)
    (z_int : PySem.W.nsIn K mainGlobals "int" = some none)
    (z_bool : PySem.W.nsIn K mainGlobals "bool" = some none)
    (z_tuple : PySem.W.nsIn K mainGlobals "tuple" = some none)
    (z_str : PySem.W.nsIn K mainGlobals "str" = some none)
    (z_all : PySem.W.nsIn K mainGlobals "all" = some none)
    (z_abs : PySem.W.nsIn K mainGlobals "abs" = some none)
    (z_list : PySem.W.nsIn K mainGlobals "list" = some none)
    (z_range : PySem.W.nsIn K mainGlobals "range" = some none)
    (a_is_integer : PySem.W.nsIn K mainGlobals "is_integer" = some (some (.ref f_is_integer)))
    (l_is_integer : K.lookup f_is_integer = some ⟨oc_is_integer, od_is_integer, .func (PySem.W.fnOf "is_integer" "is_integer" (defArgs s_is_integer) (defBody s_is_integer) (defScope s_is_integer) .none kV_is_integer dc_is_integer pm_is_integer an_is_integer cd_is_integer ct_is_integer), sl_is_integer⟩)
    (c_is_integer : PySem.W.codeIn K cd_is_integer "is_integer" = true)
    (k_is_integer : PySem.W.keepIn K (.ref f_is_integer) = true)
    (a_is_rational : PySem.W.nsIn K mainGlobals "is_rational" = some (some (.ref f_is_rational)))
    (l_is_rational : K.lookup f_is_rational = some ⟨oc_is_rational, od_is_rational, .func (PySem.W.fnOf "is_rational" "is_rational" (defArgs s_is_rational) (defBody s_is_rational) (defScope s_is_rational) .none kV_is_rational dc_is_rational pm_is_rational an_is_rational cd_is_rational ct_is_rational), sl_is_rational⟩)
    (c_is_rational : PySem.W.codeIn K cd_is_rational "is_rational" = true)
    (k_is_rational : PySem.W.keepIn K (.ref f_is_rational) = true)
    (a_reduced : PySem.W.nsIn K mainGlobals "reduced" = some (some (.ref f_reduced)))
    (l_reduced : K.lookup f_reduced = some ⟨oc_reduced, od_reduced, .func (PySem.W.fnOf "reduced" "reduced" (defArgs s_reduced) (defBody s_reduced) (defScope s_reduced) .none kV_reduced dc_reduced pm_reduced an_reduced cd_reduced ct_reduced), sl_reduced⟩)
    (c_reduced : PySem.W.codeIn K cd_reduced "reduced" = true)
    (k_reduced : PySem.W.keepIn K (.ref f_reduced) = true)
    (a_ratio : PySem.W.nsIn K mainGlobals "ratio" = some (some (.ref f_ratio)))
    (l_ratio : K.lookup f_ratio = some ⟨oc_ratio, od_ratio, .func (PySem.W.fnOf "ratio" "ratio" (defArgs s_ratio) (defBody s_ratio) (defScope s_ratio) .none kV_ratio dc_ratio pm_ratio an_ratio cd_ratio ct_ratio), sl_ratio⟩)
    (c_ratio : PySem.W.codeIn K cd_ratio "ratio" = true)
    (k_ratio : PySem.W.keepIn K (.ref f_ratio) = true)
    (a_plus : PySem.W.nsIn K mainGlobals "plus" = some (some (.ref f_plus)))
    (l_plus : K.lookup f_plus = some ⟨oc_plus, od_plus, .func (PySem.W.fnOf "plus" "plus" (defArgs s_plus) (defBody s_plus) (defScope s_plus) .none kV_plus dc_plus pm_plus an_plus cd_plus ct_plus), sl_plus⟩)
    (c_plus : PySem.W.codeIn K cd_plus "plus" = true)
    (k_plus : PySem.W.keepIn K (.ref f_plus) = true)
    (a_minus : PySem.W.nsIn K mainGlobals "minus" = some (some (.ref f_minus)))
    (l_minus : K.lookup f_minus = some ⟨oc_minus, od_minus, .func (PySem.W.fnOf "minus" "minus" (defArgs s_minus) (defBody s_minus) (defScope s_minus) .none kV_minus dc_minus pm_minus an_minus cd_minus ct_minus), sl_minus⟩)
    (c_minus : PySem.W.codeIn K cd_minus "minus" = true)
    (k_minus : PySem.W.keepIn K (.ref f_minus) = true)
    (a_times : PySem.W.nsIn K mainGlobals "times" = some (some (.ref f_times)))
    (l_times : K.lookup f_times = some ⟨oc_times, od_times, .func (PySem.W.fnOf "times" "times" (defArgs s_times) (defBody s_times) (defScope s_times) .none kV_times dc_times pm_times an_times cd_times ct_times), sl_times⟩)
    (c_times : PySem.W.codeIn K cd_times "times" = true)
    (k_times : PySem.W.keepIn K (.ref f_times) = true)
    (a_sign : PySem.W.nsIn K mainGlobals "sign" = some (some (.ref f_sign)))
    (l_sign : K.lookup f_sign = some ⟨oc_sign, od_sign, .func (PySem.W.fnOf "sign" "sign" (defArgs s_sign) (defBody s_sign) (defScope s_sign) .none kV_sign dc_sign pm_sign an_sign cd_sign ct_sign), sl_sign⟩)
    (c_sign : PySem.W.codeIn K cd_sign "sign" = true)
    (k_sign : PySem.W.keepIn K (.ref f_sign) = true)
    (a_is_square : PySem.W.nsIn K mainGlobals "is_square" = some (some (.ref f_is_square)))
    (l_is_square : K.lookup f_is_square = some ⟨oc_is_square, od_is_square, .func (PySem.W.fnOf "is_square" "is_square" (defArgs s_is_square) (defBody s_is_square) (defScope s_is_square) .none kV_is_square dc_is_square pm_is_square an_is_square cd_is_square ct_is_square), sl_is_square⟩)
    (c_is_square : PySem.W.codeIn K cd_is_square "is_square" = true)
    (k_is_square : PySem.W.keepIn K (.ref f_is_square) = true)
    (a_is_root : PySem.W.nsIn K mainGlobals "is_root" = some (some (.ref f_is_root)))
    (l_is_root : K.lookup f_is_root = some ⟨oc_is_root, od_is_root, .func (PySem.W.fnOf "is_root" "is_root" (defArgs s_is_root) (defBody s_is_root) (defScope s_is_root) .none kV_is_root dc_is_root pm_is_root an_is_root cd_is_root ct_is_root), sl_is_root⟩)
    (c_is_root : PySem.W.codeIn K cd_is_root "is_root" = true)
    (k_is_root : PySem.W.keepIn K (.ref f_is_root) = true)
    (a_is_number : PySem.W.nsIn K mainGlobals "is_number" = some (some (.ref f_is_number)))
    (l_is_number : K.lookup f_is_number = some ⟨oc_is_number, od_is_number, .func (PySem.W.fnOf "is_number" "is_number" (defArgs s_is_number) (defBody s_is_number) (defScope s_is_number) .none kV_is_number dc_is_number pm_is_number an_is_number cd_is_number ct_is_number), sl_is_number⟩)
    (c_is_number : PySem.W.codeIn K cd_is_number "is_number" = true)
    (k_is_number : PySem.W.keepIn K (.ref f_is_number) = true)
    (a_check_number : PySem.W.nsIn K mainGlobals "check_number" = some (some (.ref f_check_number)))
    (l_check_number : K.lookup f_check_number = some ⟨oc_check_number, od_check_number, .func (PySem.W.fnOf "check_number" "check_number" (defArgs s_check_number) (defBody s_check_number) (defScope s_check_number) .none kV_check_number dc_check_number pm_check_number an_check_number cd_check_number ct_check_number), sl_check_number⟩)
    (c_check_number : PySem.W.codeIn K cd_check_number "check_number" = true)
    (k_check_number : PySem.W.keepIn K (.ref f_check_number) = true)
    (a_parts_of : PySem.W.nsIn K mainGlobals "parts_of" = some (some (.ref f_parts_of)))
    (l_parts_of : K.lookup f_parts_of = some ⟨oc_parts_of, od_parts_of, .func (PySem.W.fnOf "parts_of" "parts_of" (defArgs s_parts_of) (defBody s_parts_of) (defScope s_parts_of) .none kV_parts_of dc_parts_of pm_parts_of an_parts_of cd_parts_of ct_parts_of), sl_parts_of⟩)
    (c_parts_of : PySem.W.codeIn K cd_parts_of "parts_of" = true)
    (k_parts_of : PySem.W.keepIn K (.ref f_parts_of) = true)
    (a_square_sign : PySem.W.nsIn K mainGlobals "square_sign" = some (some (.ref f_square_sign)))
    (l_square_sign : K.lookup f_square_sign = some ⟨oc_square_sign, od_square_sign, .func (PySem.W.fnOf "square_sign" "square_sign" (defArgs s_square_sign) (defBody s_square_sign) (defScope s_square_sign) .none kV_square_sign dc_square_sign pm_square_sign an_square_sign cd_square_sign ct_square_sign), sl_square_sign⟩)
    (c_square_sign : PySem.W.codeIn K cd_square_sign "square_sign" = true)
    (k_square_sign : PySem.W.keepIn K (.ref f_square_sign) = true)
    (a_two_roots_sign : PySem.W.nsIn K mainGlobals "two_roots_sign" = some (some (.ref f_two_roots_sign)))
    (l_two_roots_sign : K.lookup f_two_roots_sign = some ⟨oc_two_roots_sign, od_two_roots_sign, .func (PySem.W.fnOf "two_roots_sign" "two_roots_sign" (defArgs s_two_roots_sign) (defBody s_two_roots_sign) (defScope s_two_roots_sign) .none kV_two_roots_sign dc_two_roots_sign pm_two_roots_sign an_two_roots_sign cd_two_roots_sign ct_two_roots_sign), sl_two_roots_sign⟩)
    (c_two_roots_sign : PySem.W.codeIn K cd_two_roots_sign "two_roots_sign" = true)
    (k_two_roots_sign : PySem.W.keepIn K (.ref f_two_roots_sign) = true)
    (a_total_sign : PySem.W.nsIn K mainGlobals "total_sign" = some (some (.ref f_total_sign)))
    (l_total_sign : K.lookup f_total_sign = some ⟨oc_total_sign, od_total_sign, .func (PySem.W.fnOf "total_sign" "total_sign" (defArgs s_total_sign) (defBody s_total_sign) (defScope s_total_sign) .none kV_total_sign dc_total_sign pm_total_sign an_total_sign cd_total_sign ct_total_sign), sl_total_sign⟩)
    (c_total_sign : PySem.W.codeIn K cd_total_sign "total_sign" = true)
    (k_total_sign : PySem.W.keepIn K (.ref f_total_sign) = true)
    (a_number_sign : PySem.W.nsIn K mainGlobals "number_sign" = some (some (.ref f_number_sign)))
    (l_number_sign : K.lookup f_number_sign = some ⟨oc_number_sign, od_number_sign, .func (PySem.W.fnOf "number_sign" "number_sign" (defArgs s_number_sign) (defBody s_number_sign) (defScope s_number_sign) .none kV_number_sign dc_number_sign pm_number_sign an_number_sign cd_number_sign ct_number_sign), sl_number_sign⟩)
    (c_number_sign : PySem.W.codeIn K cd_number_sign "number_sign" = true)
    (k_number_sign : PySem.W.keepIn K (.ref f_number_sign) = true)
    (a_compare_numbers : PySem.W.nsIn K mainGlobals "compare_numbers" = some (some (.ref f_compare_numbers)))
    (l_compare_numbers : K.lookup f_compare_numbers = some ⟨oc_compare_numbers, od_compare_numbers, .func (PySem.W.fnOf "compare_numbers" "compare_numbers" (defArgs s_compare_numbers) (defBody s_compare_numbers) (defScope s_compare_numbers) .none kV_compare_numbers dc_compare_numbers pm_compare_numbers an_compare_numbers cd_compare_numbers ct_compare_numbers), sl_compare_numbers⟩)
    (c_compare_numbers : PySem.W.codeIn K cd_compare_numbers "compare_numbers" = true)
    (k_compare_numbers : PySem.W.keepIn K (.ref f_compare_numbers) = true)
    (a_floor_of : PySem.W.nsIn K mainGlobals "floor_of" = some (some (.ref f_floor_of)))
    (l_floor_of : K.lookup f_floor_of = some ⟨oc_floor_of, od_floor_of, .func (PySem.W.fnOf "floor_of" "floor_of" (defArgs s_floor_of) (defBody s_floor_of) (defScope s_floor_of) .none kV_floor_of dc_floor_of pm_floor_of an_floor_of cd_floor_of ct_floor_of), sl_floor_of⟩)
    (c_floor_of : PySem.W.codeIn K cd_floor_of "floor_of" = true)
    (k_floor_of : PySem.W.keepIn K (.ref f_floor_of) = true)
    (a_law_stream : PySem.W.nsIn K mainGlobals "_law_stream" = some (some (.ref f_law_stream)))
    (l_law_stream : K.lookup f_law_stream = some ⟨oc_law_stream, od_law_stream, .func (PySem.W.fnOf "_law_stream" "_law_stream" (defArgs s_law_stream) (defBody s_law_stream) (defScope s_law_stream) .none kV_law_stream dc_law_stream pm_law_stream an_law_stream cd_law_stream ct_law_stream), sl_law_stream⟩)
    (c_law_stream : PySem.W.codeIn K cd_law_stream "_law_stream" = true)
    (k_law_stream : PySem.W.keepIn K (.ref f_law_stream) = true)
    (a_law_next : PySem.W.nsIn K mainGlobals "_law_next" = some (some (.ref f_law_next)))
    (l_law_next : K.lookup f_law_next = some ⟨oc_law_next, od_law_next, .func (PySem.W.fnOf "_law_next" "_law_next" (defArgs s_law_next) (defBody s_law_next) (defScope s_law_next) .none kV_law_next dc_law_next pm_law_next an_law_next cd_law_next ct_law_next), sl_law_next⟩)
    (c_law_next : PySem.W.codeIn K cd_law_next "_law_next" = true)
    (k_law_next : PySem.W.keepIn K (.ref f_law_next) = true)
    (a_law_is_integer : PySem.W.nsIn K mainGlobals "_law_is_integer" = some (some (.ref f_law_is_integer)))
    (l_law_is_integer : K.lookup f_law_is_integer = some ⟨oc_law_is_integer, od_law_is_integer, .func (PySem.W.fnOf "_law_is_integer" "_law_is_integer" (defArgs s_law_is_integer) (defBody s_law_is_integer) (defScope s_law_is_integer) .none kV_law_is_integer dc_law_is_integer pm_law_is_integer an_law_is_integer cd_law_is_integer ct_law_is_integer), sl_law_is_integer⟩)
    (c_law_is_integer : PySem.W.codeIn K cd_law_is_integer "_law_is_integer" = true)
    (k_law_is_integer : PySem.W.keepIn K (.ref f_law_is_integer) = true)
    (a_law_gcd : PySem.W.nsIn K mainGlobals "_law_gcd" = some (some (.ref f_law_gcd)))
    (l_law_gcd : K.lookup f_law_gcd = some ⟨oc_law_gcd, od_law_gcd, .func (PySem.W.fnOf "_law_gcd" "_law_gcd" (defArgs s_law_gcd) (defBody s_law_gcd) (defScope s_law_gcd) .none kV_law_gcd dc_law_gcd pm_law_gcd an_law_gcd cd_law_gcd ct_law_gcd), sl_law_gcd⟩)
    (c_law_gcd : PySem.W.codeIn K cd_law_gcd "_law_gcd" = true)
    (k_law_gcd : PySem.W.keepIn K (.ref f_law_gcd) = true)
    (a_law_low : PySem.W.nsIn K mainGlobals "_law_low" = some (some (.ref f_law_low)))
    (l_law_low : K.lookup f_law_low = some ⟨oc_law_low, od_law_low, .func (PySem.W.fnOf "_law_low" "_law_low" (defArgs s_law_low) (defBody s_law_low) (defScope s_law_low) .none kV_law_low dc_law_low pm_law_low an_law_low cd_law_low ct_law_low), sl_law_low⟩)
    (c_law_low : PySem.W.codeIn K cd_law_low "_law_low" = true)
    (k_law_low : PySem.W.keepIn K (.ref f_law_low) = true)
    (a_law_ratio : PySem.W.nsIn K mainGlobals "_law_ratio" = some (some (.ref f_law_ratio)))
    (l_law_ratio : K.lookup f_law_ratio = some ⟨oc_law_ratio, od_law_ratio, .func (PySem.W.fnOf "_law_ratio" "_law_ratio" (defArgs s_law_ratio) (defBody s_law_ratio) (defScope s_law_ratio) .none kV_law_ratio dc_law_ratio pm_law_ratio an_law_ratio cd_law_ratio ct_law_ratio), sl_law_ratio⟩)
    (c_law_ratio : PySem.W.codeIn K cd_law_ratio "_law_ratio" = true)
    (k_law_ratio : PySem.W.keepIn K (.ref f_law_ratio) = true)
    (a_law_equal : PySem.W.nsIn K mainGlobals "_law_equal" = some (some (.ref f_law_equal)))
    (l_law_equal : K.lookup f_law_equal = some ⟨oc_law_equal, od_law_equal, .func (PySem.W.fnOf "_law_equal" "_law_equal" (defArgs s_law_equal) (defBody s_law_equal) (defScope s_law_equal) .none kV_law_equal dc_law_equal pm_law_equal an_law_equal cd_law_equal ct_law_equal), sl_law_equal⟩)
    (c_law_equal : PySem.W.codeIn K cd_law_equal "_law_equal" = true)
    (k_law_equal : PySem.W.keepIn K (.ref f_law_equal) = true)
    (a_law_root : PySem.W.nsIn K mainGlobals "_law_root" = some (some (.ref f_law_root)))
    (l_law_root : K.lookup f_law_root = some ⟨oc_law_root, od_law_root, .func (PySem.W.fnOf "_law_root" "_law_root" (defArgs s_law_root) (defBody s_law_root) (defScope s_law_root) .none kV_law_root dc_law_root pm_law_root an_law_root cd_law_root ct_law_root), sl_law_root⟩)
    (c_law_root : PySem.W.codeIn K cd_law_root "_law_root" = true)
    (k_law_root : PySem.W.keepIn K (.ref f_law_root) = true)
    (a_law_is_square : PySem.W.nsIn K mainGlobals "_law_is_square" = some (some (.ref f_law_is_square)))
    (l_law_is_square : K.lookup f_law_is_square = some ⟨oc_law_is_square, od_law_is_square, .func (PySem.W.fnOf "_law_is_square" "_law_is_square" (defArgs s_law_is_square) (defBody s_law_is_square) (defScope s_law_is_square) .none kV_law_is_square dc_law_is_square pm_law_is_square an_law_is_square cd_law_is_square ct_law_is_square), sl_law_is_square⟩)
    (c_law_is_square : PySem.W.codeIn K cd_law_is_square "_law_is_square" = true)
    (k_law_is_square : PySem.W.keepIn K (.ref f_law_is_square) = true)
    (a_law_number : PySem.W.nsIn K mainGlobals "_law_number" = some (some (.ref f_law_number)))
    (l_law_number : K.lookup f_law_number = some ⟨oc_law_number, od_law_number, .func (PySem.W.fnOf "_law_number" "_law_number" (defArgs s_law_number) (defBody s_law_number) (defScope s_law_number) .none kV_law_number dc_law_number pm_law_number an_law_number cd_law_number ct_law_number), sl_law_number⟩)
    (c_law_number : PySem.W.codeIn K cd_law_number "_law_number" = true)
    (k_law_number : PySem.W.keepIn K (.ref f_law_number) = true)
    (a_law_beside : PySem.W.nsIn K mainGlobals "_law_beside" = some (some (.ref f_law_beside)))
    (l_law_beside : K.lookup f_law_beside = some ⟨oc_law_beside, od_law_beside, .func (PySem.W.fnOf "_law_beside" "_law_beside" (defArgs s_law_beside) (defBody s_law_beside) (defScope s_law_beside) .none kV_law_beside dc_law_beside pm_law_beside an_law_beside cd_law_beside ct_law_beside), sl_law_beside⟩)
    (c_law_beside : PySem.W.codeIn K cd_law_beside "_law_beside" = true)
    (k_law_beside : PySem.W.keepIn K (.ref f_law_beside) = true)
    (a_law_told : PySem.W.nsIn K mainGlobals "_law_told" = some (some (.ref f_law_told)))
    (l_law_told : K.lookup f_law_told = some ⟨oc_law_told, od_law_told, .func (PySem.W.fnOf "_law_told" "_law_told" (defArgs s_law_told) (defBody s_law_told) (defScope s_law_told) .none kV_law_told dc_law_told pm_law_told an_law_told cd_law_told ct_law_told), sl_law_told⟩)
    (c_law_told : PySem.W.codeIn K cd_law_told "_law_told" = true)
    (k_law_told : PySem.W.keepIn K (.ref f_law_told) = true)
    (a_law_long : PySem.W.nsIn K mainGlobals "_law_long" = some (some (.ref f_law_long)))
    (l_law_long : K.lookup f_law_long = some ⟨oc_law_long, od_law_long, .func (PySem.W.fnOf "_law_long" "_law_long" (defArgs s_law_long) (defBody s_law_long) (defScope s_law_long) .none kV_law_long dc_law_long pm_law_long an_law_long cd_law_long ct_law_long), sl_law_long⟩)
    (c_law_long : PySem.W.codeIn K cd_law_long "_law_long" = true)
    (k_law_long : PySem.W.keepIn K (.ref f_law_long) = true)
    (a_law : PySem.W.nsIn K mainGlobals "law" = some (some (.ref f_law)))
    (l_law : K.lookup f_law = some ⟨oc_law, od_law, .func (PySem.W.fnOf "law" "law" (defArgs s_law) (defBody s_law) (defScope s_law) .none kV_law dc_law pm_law an_law cd_law ct_law), sl_law⟩)
    (c_law : PySem.W.codeIn K cd_law "law" = true)
    (k_law : PySem.W.keepIn K (.ref f_law) = true)
    : ∃ fd : FuncData, (∀ (s : Shared) (v : Value), BindsTo s fd ⟨[v], []⟩ [("_law_script", v)]) ∧ ∀ base : Heap, K.In base → base.Ns mainGlobals mg → FnOk P w K mg base CX0 7 fa fd ["_law_script"] (spLaw K) := by
  have e := hfa.symm.trans (PySem.W.mg_of X G a_law)
  cases e
  let A : Ad := { is_integer := f_is_integer, is_rational := f_is_rational, reduced := f_reduced, ratio := f_ratio, plus := f_plus, minus := f_minus, times := f_times, sign := f_sign, is_square := f_is_square, is_root := f_is_root, is_number := f_is_number, check_number := f_check_number, parts_of := f_parts_of, square_sign := f_square_sign, two_roots_sign := f_two_roots_sign, total_sign := f_total_sign, number_sign := f_number_sign, compare_numbers := f_compare_numbers, floor_of := f_floor_of, law_stream := f_law_stream, law_next := f_law_next, law_is_integer := f_law_is_integer, law_gcd := f_law_gcd, law_low := f_law_low, law_ratio := f_law_ratio, law_equal := f_law_equal, law_root := f_law_root, law_is_square := f_law_is_square, law_number := f_law_number, law_beside := f_law_beside, law_told := f_law_told, law_long := f_law_long, law := fa, BadValue := f_C, init := f_init, ZERO := f_Z }
  have T : Txt K mg A := {
    g_is_integer := PySem.W.mg_of X G a_is_integer, k_is_integer := k_is_integer,
    g_is_rational := PySem.W.mg_of X G a_is_rational, k_is_rational := k_is_rational,
    g_reduced := PySem.W.mg_of X G a_reduced, k_reduced := k_reduced,
    g_ratio := PySem.W.mg_of X G a_ratio, k_ratio := k_ratio,
    g_plus := PySem.W.mg_of X G a_plus, k_plus := k_plus,
    g_minus := PySem.W.mg_of X G a_minus, k_minus := k_minus,
    g_times := PySem.W.mg_of X G a_times, k_times := k_times,
    g_sign := PySem.W.mg_of X G a_sign, k_sign := k_sign,
    g_is_square := PySem.W.mg_of X G a_is_square, k_is_square := k_is_square,
    g_is_root := PySem.W.mg_of X G a_is_root, k_is_root := k_is_root,
    g_is_number := PySem.W.mg_of X G a_is_number, k_is_number := k_is_number,
    g_check_number := PySem.W.mg_of X G a_check_number, k_check_number := k_check_number,
    g_parts_of := PySem.W.mg_of X G a_parts_of, k_parts_of := k_parts_of,
    g_square_sign := PySem.W.mg_of X G a_square_sign, k_square_sign := k_square_sign,
    g_two_roots_sign := PySem.W.mg_of X G a_two_roots_sign, k_two_roots_sign := k_two_roots_sign,
    g_total_sign := PySem.W.mg_of X G a_total_sign, k_total_sign := k_total_sign,
    g_number_sign := PySem.W.mg_of X G a_number_sign, k_number_sign := k_number_sign,
    g_compare_numbers := PySem.W.mg_of X G a_compare_numbers, k_compare_numbers := k_compare_numbers,
    g_floor_of := PySem.W.mg_of X G a_floor_of, k_floor_of := k_floor_of,
    g_law_stream := PySem.W.mg_of X G a_law_stream, k_law_stream := k_law_stream,
    g_law_next := PySem.W.mg_of X G a_law_next, k_law_next := k_law_next,
    g_law_is_integer := PySem.W.mg_of X G a_law_is_integer, k_law_is_integer := k_law_is_integer,
    g_law_gcd := PySem.W.mg_of X G a_law_gcd, k_law_gcd := k_law_gcd,
    g_law_low := PySem.W.mg_of X G a_law_low, k_law_low := k_law_low,
    g_law_ratio := PySem.W.mg_of X G a_law_ratio, k_law_ratio := k_law_ratio,
    g_law_equal := PySem.W.mg_of X G a_law_equal, k_law_equal := k_law_equal,
    g_law_root := PySem.W.mg_of X G a_law_root, k_law_root := k_law_root,
    g_law_is_square := PySem.W.mg_of X G a_law_is_square, k_law_is_square := k_law_is_square,
    g_law_number := PySem.W.mg_of X G a_law_number, k_law_number := k_law_number,
    g_law_beside := PySem.W.mg_of X G a_law_beside, k_law_beside := k_law_beside,
    g_law_told := PySem.W.mg_of X G a_law_told, k_law_told := k_law_told,
    g_law_long := PySem.W.mg_of X G a_law_long, k_law_long := k_law_long,
    g_law := PySem.W.mg_of X G a_law, k_law := k_law,
    n_isinstance := PySem.W.mg_none_of X G z_isinstance,
    n_len := PySem.W.mg_none_of X G z_len,
    n_int := PySem.W.mg_none_of X G z_int,
    n_bool := PySem.W.mg_none_of X G z_bool,
    n_tuple := PySem.W.mg_none_of X G z_tuple,
    n_str := PySem.W.mg_none_of X G z_str,
    n_all := PySem.W.mg_none_of X G z_all,
    n_abs := PySem.W.mg_none_of X G z_abs,
    n_list := PySem.W.mg_none_of X G z_list,
    n_range := PySem.W.mg_none_of X G z_range,
    g_gcd := PySem.W.mg_of X G aG, g_isqrt := PySem.W.mg_of X G aI, g_ZERO := PySem.W.mg_of X G aZ,
    zero := ⟨_, _, _, lZ, rfl, rfl, (by show 2 ≤ sizeLine; decide), .cons ⟨_, rfl⟩ (.cons ⟨_, rfl⟩ .nil)⟩,
    gC := PySem.W.mg_of X G aC, oex := ⟨⟨nmC, qC, NC, bsC, bmC, snC, subC, abC, colC, ddC, m0, m1, m2, m3, m5, xC, hC⟩, sa, eC, tC, kC⟩, iC := a_init, tI := ti, nN := nb, xf := ⟨ga, gg, eC, dC⟩, te := own_exm eC iC tC sC }
  have D : Defs K A := {
    d_is_integer := mk_isF l_is_integer c_is_integer k_is_integer,
    d_is_rational := mk_isF l_is_rational c_is_rational k_is_rational,
    d_reduced := mk_isF l_reduced c_reduced k_reduced,
    d_ratio := mk_isF l_ratio c_ratio k_ratio,
    d_plus := mk_isF l_plus c_plus k_plus,
    d_minus := mk_isF l_minus c_minus k_minus,
    d_times := mk_isF l_times c_times k_times,
    d_sign := mk_isF l_sign c_sign k_sign,
    d_is_square := mk_isF l_is_square c_is_square k_is_square,
    d_is_root := mk_isF l_is_root c_is_root k_is_root,
    d_is_number := mk_isF l_is_number c_is_number k_is_number,
    d_check_number := mk_isF l_check_number c_check_number k_check_number,
    d_parts_of := mk_isF l_parts_of c_parts_of k_parts_of,
    d_square_sign := mk_isF l_square_sign c_square_sign k_square_sign,
    d_two_roots_sign := mk_isF l_two_roots_sign c_two_roots_sign k_two_roots_sign,
    d_total_sign := mk_isF l_total_sign c_total_sign k_total_sign,
    d_number_sign := mk_isF l_number_sign c_number_sign k_number_sign,
    d_compare_numbers := mk_isF l_compare_numbers c_compare_numbers k_compare_numbers,
    d_floor_of := mk_isF l_floor_of c_floor_of k_floor_of,
    d_law_stream := mk_isF l_law_stream c_law_stream k_law_stream,
    d_law_next := mk_isF l_law_next c_law_next k_law_next,
    d_law_is_integer := mk_isF l_law_is_integer c_law_is_integer k_law_is_integer,
    d_law_gcd := mk_isF l_law_gcd c_law_gcd k_law_gcd,
    d_law_low := mk_isF l_law_low c_law_low k_law_low,
    d_law_ratio := mk_isF l_law_ratio c_law_ratio k_law_ratio,
    d_law_equal := mk_isF l_law_equal c_law_equal k_law_equal,
    d_law_root := mk_isF l_law_root c_law_root k_law_root,
    d_law_is_square := mk_isF l_law_is_square c_law_is_square k_law_is_square,
    d_law_number := mk_isF l_law_number c_law_number k_law_number,
    d_law_beside := mk_isF l_law_beside c_law_beside k_law_beside,
    d_law_told := mk_isF l_law_told c_law_told k_law_told,
    d_law_long := mk_isF l_law_long c_law_long k_law_long,
    d_init := mk_isF l_init c_init k_init }
  exact ⟨PySem.W.fnOf "law" "law" (defArgs s_law) (defBody s_law) (defScope s_law) .none kV_law dc_law pm_law an_law cd_law ct_law, fun s v => .of_eq rfl, fun base _ _ => law_all (A := A) (fun_mk (st := s_law) l_law c_law k_law) D T⟩
theorem walk {l : PySem.W.OpenLaw} {q : Program} {loose : List Str} {XP : (Str → Option Value) → Heap → Prop} {YP : World → Heap → Prop} {d : DefRec} {K : Params → PySem.W.Frag} (hn : l.most = some 63) (hdf : d.params.defaults = [])
    (hY : ∀ (w : World) (h : Heap), YP w h → (K w.params).In h)
    (F : ∀ (w : World) (mg : Str → Option Value) (fa : Addr) (h : Heap), (K w.params).In h → h.Ns mainGlobals mg → mg d.name = some (.ref fa) →
      ∃ fd : FuncData, (∀ (s : Shared) (u : Value), BindsTo s fd ⟨[u], []⟩ [("_law_script", u)]) ∧ ∀ base : Heap, (K w.params).In base → base.Ns mainGlobals mg → FnOk l.prog w (K w.params) mg base CX0 7 fa fd ["_law_script"] (spLaw (K w.params))) :
    PySem.W.WalkO q loose XP YP l.row.toRowW d [] (fun f vs => PySem.call f vs) :=
  L2.walk_of (n := 63) (k := 7) (x := "_law_script") (CX := fun _ => CX0) (sp := fun w => spLaw (K w.params)) hn (by decide) hdf ⟨rfl, by decide, by decide⟩ hY F (fun _ _ a ns _ _ hS => ⟨a, ns, rfl, hS, fun _ => rfl⟩) fun _ _ _ _ _ z => z
end K12

open PySem PySem.W PyProof.Rows
set_option maxRecDepth 100000 in
set_option maxHeartbeats 0 in
theorem PySem.Challenge.cw_oddscall_k12_whole_floors_and_order_holds : PySem.Challenge.rw_oddscall_k12_whole_floors_and_order.Holds := by
  w_on; o_law; k_head; (case hw => w_witness2)
  k_fill
  refine K12.walk (l := PySem.Challenge.rw_oddscall_k12_whole_floors_and_order) rfl rfl (fun w h Y => PySem.W.kIn_of Y) ?F
  case F =>
    intro w mg fa h KX G hmg
    refine' K12.all_mk KX G hmg ?aC ?xC ?hC ?sa ?ga ?gg ?nb ?a_init ?l_init ?c_init ?k_init ?ti ?kC ?eC ?tC ?dC ?iC ?sC ?aZ ?lZ ?aG ?aI ?z_isinstance ?z_len ?z_int ?z_bool ?z_tuple ?z_str ?z_all ?z_abs ?z_list ?z_range ?a_is_integer ?l_is_integer ?c_is_integer ?k_is_integer ?a_is_rational ?l_is_rational ?c_is_rational ?k_is_rational ?a_reduced ?l_reduced ?c_reduced ?k_reduced ?a_ratio ?l_ratio ?c_ratio ?k_ratio ?a_plus ?l_plus ?c_plus ?k_plus ?a_minus ?l_minus ?c_minus ?k_minus ?a_times ?l_times ?c_times ?k_times ?a_sign ?l_sign ?c_sign ?k_sign ?a_is_square ?l_is_square ?c_is_square ?k_is_square ?a_is_root ?l_is_root ?c_is_root ?k_is_root ?a_is_number ?l_is_number ?c_is_number ?k_is_number ?a_check_number ?l_check_number ?c_check_number ?k_check_number ?a_parts_of ?l_parts_of ?c_parts_of ?k_parts_of ?a_square_sign ?l_square_sign ?c_square_sign ?k_square_sign ?a_two_roots_sign ?l_two_roots_sign ?c_two_roots_sign ?k_two_roots_sign ?a_total_sign ?l_total_sign ?c_total_sign ?k_total_sign ?a_number_sign ?l_number_sign ?c_number_sign ?k_number_sign ?a_compare_numbers ?l_compare_numbers ?c_compare_numbers ?k_compare_numbers ?a_floor_of ?l_floor_of ?c_floor_of ?k_floor_of ?a_law_stream ?l_law_stream ?c_law_stream ?k_law_stream ?a_law_next ?l_law_next ?c_law_next ?k_law_next ?a_law_is_integer ?l_law_is_integer ?c_law_is_integer ?k_law_is_integer ?a_law_gcd ?l_law_gcd ?c_law_gcd ?k_law_gcd ?a_law_low ?l_law_low ?c_law_low ?k_law_low ?a_law_ratio ?l_law_ratio ?c_law_ratio ?k_law_ratio ?a_law_equal ?l_law_equal ?c_law_equal ?k_law_equal ?a_law_root ?l_law_root ?c_law_root ?k_law_root ?a_law_is_square ?l_law_is_square ?c_law_is_square ?k_law_is_square ?a_law_number ?l_law_number ?c_law_number ?k_law_number ?a_law_beside ?l_law_beside ?c_law_beside ?k_law_beside ?a_law_told ?l_law_told ?c_law_told ?k_law_told ?a_law_long ?l_law_long ?c_law_long ?k_law_long ?a_law ?l_law ?c_law ?k_law
    (case aC => k_is)
    (case xC => k_is)
    (case hC => decide +kernel)
    (case sa => k_is)
    (case ga => k_is)
    (case gg => k_is)
    (case nb => k_is)
    (case a_init => k_is)
    (case l_init => k_is)
    (case c_init => k_is)
    (case k_init => k_is)
    (case ti => k_is)
    (case kC => k_is)
    (case eC => k_is)
    (case tC => k_is)
    (case dC => k_is)
    (case iC => k_is)
    (case sC => first | rfl | k_is)
    (case aZ => k_is)
    (case lZ => k_is)
    (case aG => k_is)
    (case aI => k_is)
    (case z_isinstance => k_is)
    (case z_len => k_is)
    (case z_int => k_is)
    (case z_bool => k_is)
    (case z_tuple => k_is)
    (case z_str => k_is)
    (case z_all => k_is)
    (case z_abs => k_is)
    (case z_list => k_is)
    (case z_range => k_is)
    (case a_is_integer => k_is)
    (case l_is_integer => k_is)
    (case c_is_integer => k_is)
    (case k_is_integer => k_is)
    (case a_is_rational => k_is)
    (case l_is_rational => k_is)
    (case c_is_rational => k_is)
    (case k_is_rational => k_is)
    (case a_reduced => k_is)
    (case l_reduced => k_is)
    (case c_reduced => k_is)
    (case k_reduced => k_is)
    (case a_ratio => k_is)
    (case l_ratio => k_is)
    (case c_ratio => k_is)
    (case k_ratio => k_is)
    (case a_plus => k_is)
    (case l_plus => k_is)
    (case c_plus => k_is)
    (case k_plus => k_is)
    (case a_minus => k_is)
    (case l_minus => k_is)
    (case c_minus => k_is)
    (case k_minus => k_is)
    (case a_times => k_is)
    (case l_times => k_is)
    (case c_times => k_is)
    (case k_times => k_is)
    (case a_sign => k_is)
    (case l_sign => k_is)
    (case c_sign => k_is)
    (case k_sign => k_is)
    (case a_is_square => k_is)
    (case l_is_square => k_is)
    (case c_is_square => k_is)
    (case k_is_square => k_is)
    (case a_is_root => k_is)
    (case l_is_root => k_is)
    (case c_is_root => k_is)
    (case k_is_root => k_is)
    (case a_is_number => k_is)
    (case l_is_number => k_is)
    (case c_is_number => k_is)
    (case k_is_number => k_is)
    (case a_check_number => k_is)
    (case l_check_number => k_is)
    (case c_check_number => k_is)
    (case k_check_number => k_is)
    (case a_parts_of => k_is)
    (case l_parts_of => k_is)
    (case c_parts_of => k_is)
    (case k_parts_of => k_is)
    (case a_square_sign => k_is)
    (case l_square_sign => k_is)
    (case c_square_sign => k_is)
    (case k_square_sign => k_is)
    (case a_two_roots_sign => k_is)
    (case l_two_roots_sign => k_is)
    (case c_two_roots_sign => k_is)
    (case k_two_roots_sign => k_is)
    (case a_total_sign => k_is)
    (case l_total_sign => k_is)
    (case c_total_sign => k_is)
    (case k_total_sign => k_is)
    (case a_number_sign => k_is)
    (case l_number_sign => k_is)
    (case c_number_sign => k_is)
    (case k_number_sign => k_is)
    (case a_compare_numbers => k_is)
    (case l_compare_numbers => k_is)
    (case c_compare_numbers => k_is)
    (case k_compare_numbers => k_is)
    (case a_floor_of => k_is)
    (case l_floor_of => k_is)
    (case c_floor_of => k_is)
    (case k_floor_of => k_is)
    (case a_law_stream => k_is)
    (case l_law_stream => k_is)
    (case c_law_stream => k_is)
    (case k_law_stream => k_is)
    (case a_law_next => k_is)
    (case l_law_next => k_is)
    (case c_law_next => k_is)
    (case k_law_next => k_is)
    (case a_law_is_integer => k_is)
    (case l_law_is_integer => k_is)
    (case c_law_is_integer => k_is)
    (case k_law_is_integer => k_is)
    (case a_law_gcd => k_is)
    (case l_law_gcd => k_is)
    (case c_law_gcd => k_is)
    (case k_law_gcd => k_is)
    (case a_law_low => k_is)
    (case l_law_low => k_is)
    (case c_law_low => k_is)
    (case k_law_low => k_is)
    (case a_law_ratio => k_is)
    (case l_law_ratio => k_is)
    (case c_law_ratio => k_is)
    (case k_law_ratio => k_is)
    (case a_law_equal => k_is)
    (case l_law_equal => k_is)
    (case c_law_equal => k_is)
    (case k_law_equal => k_is)
    (case a_law_root => k_is)
    (case l_law_root => k_is)
    (case c_law_root => k_is)
    (case k_law_root => k_is)
    (case a_law_is_square => k_is)
    (case l_law_is_square => k_is)
    (case c_law_is_square => k_is)
    (case k_law_is_square => k_is)
    (case a_law_number => k_is)
    (case l_law_number => k_is)
    (case c_law_number => k_is)
    (case k_law_number => k_is)
    (case a_law_beside => k_is)
    (case l_law_beside => k_is)
    (case c_law_beside => k_is)
    (case k_law_beside => k_is)
    (case a_law_told => k_is)
    (case l_law_told => k_is)
    (case c_law_told => k_is)
    (case k_law_told => k_is)
    (case a_law_long => k_is)
    (case l_law_long => k_is)
    (case c_law_long => k_is)
    (case k_law_long => k_is)
    (case a_law => k_is)
    (case l_law => k_is)
    (case c_law => k_is)
    (case k_law => k_is)

